import PyProof.Rows.All
import Wide.All
import OpenK.AllK
import Wide.FinOn
import HandS.ForMost
import HandS.ExcCtx
import HandS.ForExc
import HandS.TryMany
import HandS.ExcField
import HandS.ExcIs
import HandS.Lambda
import HandS.TupAny
import HandS.SortInts
import HandS.Style
import HandS.Flow
import HandS.Conv
import HandS.Deep
import HandS.RaiseMore
import HandS.More
import HandS.IsInst
import HandS.Defaults
import HandS.MakeKw
import HandS.Iter
import HandS.SortKw
import KE.GoesEnumKw
import PyProof.ZipIter
import HandS.Zip
import HandS.TupLen
import PySem.Challenge.RW_longways_k45_figures_written
set_option Elab.async false
set_option linter.all false
section
set_option maxRecDepth 100000
namespace Ly
open PySem PySem.Spec L2
open PyProof.Rows hiding St

inductive D where
  | n | b (x : Bool) | i (z : Int) | s (x : Str) | o (a : Addr)
  | l (xs : List D) | t (xs : List D) | z (xs : List D) | zt (xs : List D)
  | dk (ks : List Key) (ds : List D) | dt (ks : List (List Key)) (ds : List D)

mutual
inductive Rep (K : PySem.W.Frag) (G : Hp) : V → D → Prop
  | n : Rep K G .non .n
  | b (x : Bool) : Rep K G (.bl x) (.b x)
  | i (z : Int) : Rep K G (.int z) (.i z)
  | s (x : Str) : Rep K G (.str x) (.s x)
  | o (a : Addr) : Rep K G (.ref a) (.o a)
  | l {a : Addr} {xs : List V} {ds : List D} : G a = some (.lst xs) → Reps K G xs ds → Rep K G (.ref a) (.l ds)
  | z {a : Addr} {xs : List V} {ds : List D} : SqL K G a xs → Reps K G xs ds → Rep K G (.ref a) (.z ds)
  | t {a : Addr} {xs : List V} {ds : List D} : G a = some (.tup xs) → Reps K G xs ds → Rep K G (.ref a) (.t ds)
  | zt {a : Addr} {xs : List V} {ds : List D} : SqT K G a xs → Reps K G xs ds → Rep K G (.ref a) (.zt ds)
  | dk {a : Addr} {kvs : List (Key × V)} {ks : List Key} {ds : List D} : Rd G a (.dK kvs) → ks = kvs.map (·.1) → Reps K G (kvs.map (·.2)) ds → Rep K G (.ref a) (.dk ks ds)
  | dt {a : Addr} {kvs : List (List Key × V)} {ks : List (List Key)} {ds : List D} : Rd G a (.dT kvs) → ks = kvs.map (·.1) → Reps K G (kvs.map (·.2)) ds → Rep K G (.ref a) (.dt ks ds)
inductive Reps (K : PySem.W.Frag) (G : Hp) : List V → List D → Prop
  | nil : Reps K G [] []
  | cons {v : V} {vs : List V} {d : D} {ds : List D} : Rep K G v d → Reps K G vs ds → Reps K G (v :: vs) (d :: ds)
end

theorem Same.rd {G G' : Hp} (e : Same G G') {a : Addr} {u : HO} (h : Rd G a u) : Rd G' a u := by
  rcases h with h | ⟨o, h⟩
  · exact .inl (e _ _ h)
  · exact .inr ⟨o, e _ _ h⟩
theorem Same.tup {K : PySem.W.Frag} {H H' : Hp} {a : Addr} {xs : List V} (e : Same H H') (h : SqT K H a xs) : SqT K H' a xs := by
  rcases h with h | h
  · exact .inl (Same.rd e h)
  · exact .inr h

section
variable {K : PySem.W.Frag} {G G' : Hp}
mutual
theorem Rep.mono (e : Same G G') : ∀ {v : V} {d : D}, Rep K G v d → Rep K G' v d
  | _, _, .n => .n
  | _, _, .b x => .b x
  | _, _, .i x => .i x
  | _, _, .s x => .s x
  | _, _, .o a => .o a
  | _, _, .l h r => .l (e _ _ h) (Reps.mono e r)
  | _, _, .z h r => .z (e.seq h) (Reps.mono e r)
  | _, _, .t h r => .t (e _ _ h) (Reps.mono e r)
  | _, _, .zt h r => .zt (Same.tup e h) (Reps.mono e r)
  | _, _, .dk h q r => .dk (Same.rd e h) q (Reps.mono e r)
  | _, _, .dt h q r => .dt (Same.rd e h) q (Reps.mono e r)
theorem Reps.mono (e : Same G G') : ∀ {vs : List V} {ds : List D}, Reps K G vs ds → Reps K G' vs ds
  | _, _, .nil => .nil
  | _, _, .cons h r => .cons (Rep.mono e h) (Reps.mono e r)
end
theorem Reps.length : ∀ {vs : List V} {ds : List D}, Reps K G vs ds → vs.length = ds.length
  | _, _, .nil => rfl
  | _, _, .cons _ r => by simp [Reps.length r]
theorem Reps.get : ∀ {vs : List V} {ds : List D} {i : Nat} {v : V}, Reps K G vs ds → vs[i]? = some v → ∃ d, ds[i]? = some d ∧ Rep K G v d
  | _, _, _, _, .nil, e => by simp at e
  | _, _, 0, _, .cons h _, e => by simp at e; subst e; exact ⟨_, rfl, h⟩
  | _, _, i + 1, _, .cons _ r, e => by
    obtain ⟨d, h1, h2⟩ := Reps.get (i := i) r (by simpa using e)
    exact ⟨d, by simpa using h1, h2⟩
theorem Reps.get' : ∀ {vs : List V} {ds : List D} {i : Nat} {d : D}, Reps K G vs ds → ds[i]? = some d → ∃ v, vs[i]? = some v ∧ Rep K G v d
  | _, _, _, _, .nil, e => by simp at e
  | _, _, 0, _, .cons h _, e => by simp at e; subst e; exact ⟨_, rfl, h⟩
  | _, _, i + 1, _, .cons _ r, e => by
    obtain ⟨d, h1, h2⟩ := Reps.get' (i := i) r (by simpa using e)
    exact ⟨d, by simpa using h1, h2⟩
theorem Reps.append : ∀ {vs ws : List V} {ds es : List D}, Reps K G vs ds → Reps K G ws es → Reps K G (vs ++ ws) (ds ++ es)
  | _, _, _, _, .nil, s => s
  | _, _, _, _, .cons h r, s => .cons h (Reps.append r s)
theorem Reps.take : ∀ {vs : List V} {ds : List D} (n : Nat), Reps K G vs ds → Reps K G (vs.take n) (ds.take n)
  | _, _, 0, _ => .nil
  | _, _, _ + 1, .nil => .nil
  | _, _, n + 1, .cons h r => .cons h (Reps.take n r)
theorem Reps.drop : ∀ {vs : List V} {ds : List D} (n : Nat), Reps K G vs ds → Reps K G (vs.drop n) (ds.drop n)
  | _, _, 0, r => r
  | _, _, _ + 1, .nil => .nil
  | _, _, n + 1, .cons _ r => Reps.drop n r
theorem Reps.set {v : V} {d : D} (h : Rep K G v d) : ∀ {vs : List V} {ds : List D} (i : Nat), Reps K G vs ds → Reps K G (vs.set i v) (ds.set i d)
  | _, _, _, .nil => .nil
  | _, _, 0, .cons _ r => .cons h r
  | _, _, i + 1, .cons q r => .cons q (Reps.set h i r)
theorem Reps.reverse : ∀ {vs : List V} {ds : List D}, Reps K G vs ds → Reps K G vs.reverse ds.reverse
  | _, _, .nil => .nil
  | _, _, .cons h r => by
    rw [List.reverse_cons, List.reverse_cons]
    exact (Reps.reverse r).append (.cons h .nil)
theorem Rep.int_inv {v : V} {z : Int} (h : Rep K G v (.i z)) : v = .int z := by cases h; rfl
theorem Rep.str_inv {v : V} {z : Str} (h : Rep K G v (.s z)) : v = .str z := by cases h; rfl
theorem Rep.bl_inv {v : V} {z : Bool} (h : Rep K G v (.b z)) : v = .bl z := by cases h; rfl
theorem Rep.n_inv {v : V} (h : Rep K G v .n) : v = .non := by cases h; rfl
theorem Rep.l_inv {v : V} {ds : List D} (h : Rep K G v (.l ds)) : ∃ a xs, v = .ref a ∧ G a = some (.lst xs) ∧ Reps K G xs ds := by
  cases h with | l h r => exact ⟨_, _, rfl, h, r⟩
theorem Rep.t_inv {v : V} {ds : List D} (h : Rep K G v (.t ds)) : ∃ a xs, v = .ref a ∧ G a = some (.tup xs) ∧ Reps K G xs ds := by
  cases h with | t h r => exact ⟨_, _, rfl, h, r⟩
theorem Rep.zt_inv {v : V} {ds : List D} (h : Rep K G v (.zt ds)) : ∃ a xs, v = .ref a ∧ SqT K G a xs ∧ Reps K G xs ds := by
  cases h with | zt h r => exact ⟨_, _, rfl, h, r⟩
theorem Reps.ints : ∀ {vs : List V} {zs : List Int}, Reps K G vs (zs.map D.i) → vs = zs.map V.int
  | _, [], .nil => rfl
  | _, z :: zs, .cons h r => by rw [h.int_inv, List.map_cons, Reps.ints r]
theorem Reps.ofInts : ∀ (zs : List Int), Reps K G (zs.map V.int) (zs.map D.i)
  | [] => .nil
  | z :: zs => .cons (.i z) (Reps.ofInts zs)
theorem Reps.strs : ∀ {vs : List V} {zs : List Str}, Reps K G vs (zs.map D.s) → vs = zs.map V.str
  | _, [], .nil => rfl
  | _, z :: zs, .cons h r => by rw [h.str_inv, List.map_cons, Reps.strs r]
theorem Reps.ofStrs : ∀ (zs : List Str), Reps K G (zs.map V.str) (zs.map D.s)
  | [] => .nil
  | z :: zs => .cons (.s z) (Reps.ofStrs zs)
end

class Tb where
  T : List (Addr × Str)
instance (priority := low) noTb : Tb := ⟨[]⟩
def Non (H : Hp) (p : Addr) : Prop := ∀ o, H p = some o → ∃ ps, o = .tbl ps
theorem Non.of {H : Hp} {p : Addr} (h : H p = none) : Non H p := fun o e => by rw [h] at e; cases e
def NoT (G : Hp) : Prop := ∀ a ps, G a ≠ some (.tbl ps)
abbrev Kept (H H' : Hp) : Prop := LamX.ExtN H H'
theorem Kept.of {H H' : Hp} (e : Same H H') : Kept H H' := fun b o h _ => e b o h
theorem Kept.non {H H' : Hp} (e : Kept H H') {p : Addr} (n : Non H' p) : Non H p := fun o h => by
  by_cases q : ∃ ps, o = .tbl ps
  · exact q
  · exact absurd (n o (e p o h fun ps z => q ⟨ps, z⟩)) q
theorem Kept.free {H H' : Hp} (e : Kept H H') {p : Addr} (n : H' p = none) : Non H p := Kept.non e (.of n)
theorem NoT.upd {G : Hp} (n : NoT G) {p : Addr} {o : HO} (ho : ∀ ps, o ≠ .tbl ps) : NoT (upd G p o) := fun a ps e => by
  by_cases h : a = p
  · subst h; rw [upd_same] at e; exact ho ps (Option.some.inj e)
  · rw [upd_ne h] at e; exact n a ps e
theorem Kept.upd {H H' : Hp} (e : Kept H H') {p : Addr} {o : HO} (n : Non H p) : Kept H (upd H' p o) := fun b u h hu => by
  by_cases hb : b = p
  · subst hb; obtain ⟨ps, z⟩ := n u h; exact absurd z (hu ps)
  · rw [upd_ne hb]; exact e b u h hu
def Plain (o : HO) : Prop := (∀ ps, o ≠ .tbl ps) ∧ ∀ f, o ≠ .ext f
theorem tabs_put {T : List (Addr × Str)} {H : Hp} (t : LamX.Tabs T H) {p : Addr} {o o' : HO} (e : H p = some o) (h : Plain o) : LamX.Tabs T (upd H p o') := fun q hq => by
  obtain ⟨ps, h1, h2, h3⟩ := t q hq
  have n1 : q.1 ≠ p := fun z => by rw [z, e] at h1; exact h.1 ps (Option.some.inj h1)
  refine ⟨ps, by rw [upd_ne n1]; exact h1, h2, fun pos cv hc => ?_⟩
  obtain ⟨c, e1, e2⟩ := h3 pos cv hc
  refine ⟨c, e1, ?_⟩
  have n2 : c ≠ p := fun z => by
    rw [z, e] at e2
    have e3 := Option.some.inj e2
    unfold LamX.CodeO at e3
    exact h.2 _ e3
  rw [upd_ne n2]; exact e2
section
variable [Tb]
structure Gr (G H G' H' : Hp) : Prop where
  hh : Kept H H'
  gg : Same G G'
  gh : Same G' H'
  nw : ∀ a o, G' a = some o → ¬ Non H a → G a = some o
  gt : NoT G → NoT G'
  tb : LamX.Tabs Tb.T H → LamX.Tabs Tb.T H'
theorem Gr.refl {G H : Hp} (h : Same G H) : Gr G H G H := ⟨LamX.ExtN.refl _, Same.refl _, h, fun _ _ e _ => e, id, id⟩
theorem Gr.trans {G H G1 H1 G2 H2 : Hp} (a : Gr G H G1 H1) (b : Gr G1 H1 G2 H2) : Gr G H G2 H2 :=
  ⟨a.hh.trans b.hh, a.gg.trans b.gg, b.gh, fun c o e n => a.nw c o (b.nw c o e fun z => n (Kept.non a.hh z)) n, fun n => b.gt (a.gt n), fun t => b.tb (a.tb t)⟩
theorem Gr.new {G H : Hp} (h : Same G H) {p : Addr} {o : HO} (hp : H p = none) (ho : ∀ ps, o ≠ .tbl ps := by intro _ z; cases z) : Gr G H (upd G p o) (upd H p o) := by
  have gp : G p = none := h.free hp
  refine ⟨Kept.upd (.refl _) (.of hp), fun b u e => by rw [upd_ne (ne_of_none e gp)]; exact e, fun b u e => ?_, fun b u e n => ?_, fun n => n.upd ho, fun t => t.ext fun b u e => by rw [upd_ne (ne_of_none e hp)]; exact e⟩
  · by_cases hb : b = p
    · subst hb; rw [upd_same] at e ⊢; exact e
    · rw [upd_ne hb] at e ⊢; exact h b u e
  · by_cases hb : b = p
    · subst hb; exact absurd (.of hp) n
    · rw [upd_ne hb] at e; exact e
theorem Gr.own {G H : Hp} (h : Same G H) {p : Addr} {o : HO} (hp : H p = none) : Gr G H G (upd H p o) :=
  ⟨Kept.upd (.refl _) (.of hp), Same.refl _, fun b u e => by rw [upd_ne (ne_of_none (h b u e) hp)]; exact h b u e, fun _ _ e _ => e, id, fun t => t.ext fun b u e => by rw [upd_ne (ne_of_none e hp)]; exact e⟩
theorem Gr.freeze {G0 H0 G H : Hp} (g : Gr G0 H0 G H) {p : Addr} {o : HO} (hp : Non H0 p) (gp : G p = none) (e : H p = some o) (ho : ∀ ps, o ≠ .tbl ps) : Gr G0 H0 (upd G p o) H := by
  refine ⟨g.hh, fun b u q => ?_, fun b u q => ?_, fun b u q n => ?_, fun n => (g.gt n).upd ho, g.tb⟩
  · have z := g.gg b u q
    rw [upd_ne (ne_of_none z gp)]; exact z
  · by_cases hb : b = p
    · subst hb; rw [upd_same] at q; rw [e]; exact q
    · rw [upd_ne hb] at q; exact g.gh b u q
  · by_cases hb : b = p
    · subst hb; exact absurd hp n
    · rw [upd_ne hb] at q; exact g.nw b u q n
theorem Gr.keepNone {G H G' H' : Hp} (g : Gr G H G' H') {p : Addr} (gp : G p = none) (e : ¬ Non H p) : G' p = none := by
  cases q : G' p with
  | none => rfl
  | some u =>
    have z := g.nw p u q e
    rw [gp] at z; cases z
theorem Gr.put {G H G' H' : Hp} (g : Gr G H G' H') {p : Addr} {o o' : HO} (hp : Non H p) (gp : G' p = none) (e : H' p = some o) (h : Plain o) : Gr G H G' (upd H' p o') :=
  ⟨Kept.upd g.hh hp, g.gg, fun b u q => by rw [upd_ne (ne_of_none q gp)]; exact g.gh b u q, g.nw, g.gt, fun t => tabs_put (g.tb t) e h⟩
theorem Gr.less {G0 G H G' H' : Hp} (g : Gr G H G' H') (sm : Same G0 G) : Gr G0 H G0 H' := ⟨g.hh, Same.refl _, (sm.trans g.gg).trans g.gh, fun _ _ z _ => z, id, g.tb⟩
end

inductive Own (K : PySem.W.Frag) (G H : Hp) (p : Addr) : D → Prop
  | l {xs : List V} {ds : List D} : H p = some (.lst xs) → Reps K G xs ds → Own K G H p (.l ds)
  | dk {kvs : List (Key × V)} {ks : List Key} {ds : List D} : H p = some (.dK kvs) → ks = kvs.map (·.1) → Reps K G (kvs.map (·.2)) ds → Own K G H p (.dk ks ds)
  | dt {kvs : List (List Key × V)} {ks : List (List Key)} {ds : List D} : H p = some (.dT kvs) → ks = kvs.map (·.1) → Reps K G (kvs.map (·.2)) ds → Own K G H p (.dt ks ds)
theorem Own.mono {K : PySem.W.Frag} {G H G' H' : Hp} {p : Addr} {d : D} (hh : Kept H H') (gg : Same G G') (o : Own K G H p d) : Own K G' H' p d := by
  cases o with
  | l h r => exact .l (hh _ _ h fun _ z => by cases z) (r.mono gg)
  | dk h q r => exact .dk (hh _ _ h fun _ z => by cases z) q (r.mono gg)
  | dt h q r => exact .dt (hh _ _ h fun _ z => by cases z) q (r.mono gg)
theorem Own.some {K : PySem.W.Frag} {G H : Hp} {p : Addr} {d : D} (o : Own K G H p d) : ∃ u, H p = some u ∧ Plain u := by
  cases o with
  | l h r => exact ⟨_, h, fun _ z => (by cases z), fun _ z => (by cases z)⟩
  | dk h q r => exact ⟨_, h, fun _ z => (by cases z), fun _ z => (by cases z)⟩
  | dt h q r => exact ⟨_, h, fun _ z => (by cases z), fun _ z => (by cases z)⟩
theorem live_of {H : Hp} {p : Addr} {u : HO} (e : H p = some u) (h : ∀ ps, u ≠ .tbl ps := by intro _ z; cases z) : ¬ Non H p := fun n => by
  obtain ⟨ps, z⟩ := n u e
  exact h ps z
theorem Own.live {K : PySem.W.Frag} {G H : Hp} {p : Addr} {d : D} (o : Own K G H p d) : ¬ Non H p := by
  obtain ⟨u, e, h, _⟩ := o.some
  exact live_of e h
theorem Own.rep {K : PySem.W.Frag} {G H : Hp} {p : Addr} {d : D} (gp : G p = none) (o : Own K G H p d) : ∃ u, H p = .some u ∧ Plain u ∧ Rep K (upd G p u) (.ref p) d := by
  have sm : ∀ u, Same G (upd G p u) := fun u b w e => by rw [upd_ne (ne_of_none e gp)]; exact e
  cases o with
  | l h r => exact ⟨_, h, ⟨fun _ z => (by cases z), fun _ z => (by cases z)⟩, .l upd_same (r.mono (sm _))⟩
  | dk h q r => exact ⟨_, h, ⟨fun _ z => (by cases z), fun _ z => (by cases z)⟩, .dk (.inl upd_same) q (r.mono (sm _))⟩
  | dt h q r => exact ⟨_, h, ⟨fun _ z => (by cases z), fun _ z => (by cases z)⟩, .dt (.inl upd_same) q (r.mono (sm _))⟩

inductive Rv where
  | sh (d : D) | fr (d : D) | bo (d : D)
def Rv.d : Rv → D
  | .sh d => d | .fr d => d | .bo d => d
structure Exn where
  cls : Str
  fs : Option (List (Str × D)) := none
inductive Re (α : Type) where
  | ok (a : α) | ex (e : Exn) | bad
def Re.bind {α β : Type} (x : Re α) (f : α → Re β) : Re β := match x with
  | .ok a => f a | .ex e => .ex e | .bad => .bad
@[simp] theorem Re.bind_ok {α β : Type} (a : α) (f : α → Re β) : (Re.ok a).bind f = f a := rfl
@[simp] theorem Re.bind_ex {α β : Type} (e : Exn) (f : α → Re β) : (Re.ex e : Re α).bind f = .ex e := rfl
@[simp] theorem Re.bind_bad {α β : Type} (f : α → Re β) : (Re.bad : Re α).bind f = .bad := rfl

abbrev Env' := List (Option Rv)
abbrev FE := Env' → Re Rv
abbrev FT := Env' → Re Bool
abbrev FA := Env' → Re (List D)
abbrev FI := Env' → Re (List D)
inductive Fl where
  | nx (Γ : Env') | rt (r : Rv) | bk (Γ : Env') | ct (Γ : Env') | ex (e : Exn) (Γ : Env') | bad
abbrev FS := Env' → Fl

structure LC where
  K : PySem.W.Frag
  mg : Str → Option Value
  B : Hp
  G0 : Hp
  W : WX

section
variable [Tb]
def RV (c : LC) (G H : Hp) (v : V) : Rv → Prop
  | .sh d => Rep c.K G v d
  | .fr d => ∃ p, v = .ref p ∧ Non c.B p ∧ G p = none ∧ Own c.K G H p d
  | .bo d => ∃ p, v = .ref p ∧ Non c.B p ∧ G p = none ∧ Own c.K G H p d
def Fresh (H0 : Hp) (v : V) : Rv → Prop
  | .fr _ => ∃ p, v = .ref p ∧ Non H0 p
  | _ => True
theorem RV.mono {c : LC} {G H G' H' : Hp} {v : V} {r : Rv} (g : Gr G H G' H') (h : RV c G H v r) : RV c G' H' v r := by
  cases r with
  | sh d => exact Rep.mono g.gg h
  | fr d =>
    obtain ⟨p, e, b, n, o⟩ := h
    exact ⟨p, e, b, g.keepNone n o.live, o.mono g.hh g.gg⟩
  | bo d =>
    obtain ⟨p, e, b, n, o⟩ := h
    exact ⟨p, e, b, g.keepNone n o.live, o.mono g.hh g.gg⟩

structure EnvOk (c : LC) (G H : Hp) (σ : St) (Γ : Env') : Prop where
  bh : Kept c.B H
  g0 : Same c.G0 G
  gh : Same G H
  gf : ∀ a o, G a = some o → ¬ Non c.B a → c.G0 a = some o
  gt : NoT G
  tb : LamX.Tabs Tb.T H
  len : σ.length = Γ.length
  at' : ∀ (i : Nat) (r : Rv), Γ[i]? = some (some r) → ∃ v, σ[i]? = some (some v) ∧ RV c G H v r ∧ ∀ d, r ≠ .bo d
  sep : ∀ (i j : Nat) (d e : D) (p : Addr), Γ[i]? = some (some (.fr d)) → Γ[j]? = some (some (.fr e)) → σ[i]? = some (some (.ref p)) → σ[j]? = some (some (.ref p)) → i = j
theorem EnvOk.mono {c : LC} {G H G' H' : Hp} {σ : St} {Γ : Env'} (e : EnvOk c G H σ Γ) (g : Gr G H G' H') : EnvOk c G' H' σ Γ := by
  refine ⟨e.bh.trans g.hh, e.g0.trans g.gg, g.gh, fun a o q n => e.gf a o (g.nw a o q fun z => n (Kept.non e.bh z)) n, g.gt e.gt, g.tb e.tb, e.len, fun i r h => ?_, e.sep⟩
  · obtain ⟨v, h1, h2, h3⟩ := e.at' i r h
    exact ⟨v, h1, h2.mono g, h3⟩

def ExAt (c : LC) (W : Value → Option Addr → Hp → Prop) (e : Exn) (G H : Hp) : Prop :=
  ∀ (C : Addr) (d : Option Addr), c.mg e.cls = some (.ref C) →
    (match e.fs with
      | none => d = none
      | some fs => ∃ (p : Addr) (vs : List (Str × V)), d = some p ∧ H p = some (.xd vs) ∧ vs.map (·.1) = fs.map (·.1) ∧ Reps c.K G (vs.map (·.2)) (fs.map (·.2))) →
    W (.ref C) d H

def Post (c : LC) (re : Re Rv) (σ : St) (G H : Hp) (Q : VK) : Prop := match re with
  | .ok r => ∀ v G' H', Gr G H G' H' → RV c G' H' v r → Fresh H v r → Q v H'
  | .ex e => ∀ G' H', Gr G H G' H' → ExAt c (fun C d H' => c.W C d σ H') e G' H'
  | .bad => False
def PostT (c : LC) (re : Re Bool) (σ : St) (G H : Hp) (Q : Bool → Hp → Prop) : Prop := match re with
  | .ok r => ∀ G' H', Gr G H G' H' → Q r H'
  | .ex e => ∀ G' H', Gr G H G' H' → ExAt c (fun C d H' => c.W C d σ H') e G' H'
  | .bad => False
def PostA (c : LC) (re : Re (List D)) (σ : St) (G H : Hp) (Q : List V → Hp → Prop) : Prop := match re with
  | .ok ds => ∀ vs G' H', Gr G H G' H' → Reps c.K G' vs ds → Q vs H'
  | .ex e => ∀ G' H', Gr G H G' H' → ExAt c (fun C d H' => c.W C d σ H') e G' H'
  | .bad => False
def tE (c : LC) (f : FE) : TE := fun σ H Q => ∃ G Γ, EnvOk c G H σ Γ ∧ Post c (f Γ) σ G H Q
def tT (c : LC) (f : FT) : TT := fun σ H Q => ∃ G Γ, EnvOk c G H σ Γ ∧ PostT c (f Γ) σ G H Q
def tA (c : LC) (f : FA) : TA := fun σ H Q => ∃ G Γ, EnvOk c G H σ Γ ∧ PostA c (f Γ) σ G H Q

theorem PE.weak {X : Cx} {e : Expr} {t t' : TE} (h : PE X e t) (w : ∀ σ H Q, t' σ H Q → t σ H Q) : PE X e t' := ⟨fun pins s σ H Q I q => h.run pins s σ H Q I (w _ _ _ q)⟩
theorem PT.weak {X : Cx} {e : Expr} {t t' : TT} (h : PT X e t) (w : ∀ σ H Q, t' σ H Q → t σ H Q) : PT X e t' := ⟨fun pins s σ H Q I q => h.run pins s σ H Q I (w _ _ _ q)⟩
theorem PA.weak {X : Cx} {e : List Expr} {t t' : TA} (h : PA X e t) (w : ∀ σ H Q, t' σ H Q → t σ H Q) : PA X e t' := ⟨fun pos pins s σ H Q I q => h.run pos pins s σ H Q I (w _ _ _ q)⟩
theorem PS.weak {X : Cx} {e : Stmt} {t t' : TS} (h : PS X e t) (w : ∀ D σ H, t' D σ H → t D σ H) : PS X e t' := ⟨fun pins s σ H D I q => h.run pins s σ H D I (w _ _ _ q)⟩
theorem PSs.weak {X : Cx} {e : List Stmt} {t t' : TS} (h : PSs X e t) (w : ∀ D σ H, t' D σ H → t D σ H) : PSs X e t' := ⟨fun pins s σ H D I q => h.run pins s σ H D I (w _ _ _ q)⟩

theorem Post.ex_later {c : LC} {e : Exn} {σ : St} {G H G1 H1 : Hp} (g : Gr G H G1 H1) (h : ∀ G' H', Gr G H G' H' → ExAt c (fun C d H' => c.W C d σ H') e G' H') :
    ∀ G' H', Gr G1 H1 G' H' → ExAt c (fun C d H' => c.W C d σ H') e G' H' := fun G' H' g' => h G' H' (g.trans g')
theorem Fresh.back {H0 H : Hp} {v : V} {r : Rv} (e : Kept H0 H) (h : Fresh H v r) : Fresh H0 v r := by
  cases r with
  | fr d => obtain ⟨p, e1, e2⟩ := h; exact ⟨p, e1, Kept.non e e2⟩
  | sh d => trivial
  | bo d => trivial
theorem Post.later {c : LC} {re : Re Rv} {σ : St} {G H G1 H1 : Hp} {Q : VK} (g : Gr G H G1 H1) (h : Post c re σ G H Q) : Post c re σ G1 H1 Q := by
  cases re with
  | bad => exact h
  | ex x => exact Post.ex_later g h
  | ok r => exact fun v G2 H2 g2 rv fr => h v G2 H2 (g.trans g2) rv (fr.back g.hh)
theorem PostT.later {c : LC} {re : Re Bool} {σ : St} {G H G1 H1 : Hp} {Q : Bool → Hp → Prop} (g : Gr G H G1 H1) (h : PostT c re σ G H Q) : PostT c re σ G1 H1 Q := by
  cases re with
  | bad => exact h
  | ex x => exact Post.ex_later g h
  | ok r => exact fun G2 H2 g2 => h G2 H2 (g.trans g2)
theorem PostA.later {c : LC} {re : Re (List D)} {σ : St} {G H G1 H1 : Hp} {Q : List V → Hp → Prop} (g : Gr G H G1 H1) (h : PostA c re σ G H Q) : PostA c re σ G1 H1 Q := by
  cases re with
  | bad => exact h
  | ex x => exact Post.ex_later g h
  | ok r => exact fun v G2 H2 g2 rv => h v G2 H2 (g.trans g2) rv
theorem tE_bind {c : LC} {f : FE} {σ : St} {H : Hp} {G : Hp} {Γ : Env'} (he : EnvOk c G H σ Γ) {β : Type} {k : Rv → Re β} {R : VK}
    {P : Re β → Hp → Hp → Prop} (hb : ∀ G H, P .bad G H → False) (hx : ∀ x G H, P (.ex x) G H → ∀ G' H', Gr G H G' H' → ExAt c (fun C d H' => c.W C d σ H') x G' H') (hl : ∀ r G H G' H', Gr G H G' H' → P r G H → P r G' H') (h : P ((f Γ).bind k) G H)
    (hk : ∀ r v G' H', f Γ = .ok r → Gr G H G' H' → RV c G' H' v r → Fresh H v r → EnvOk c G' H' σ Γ → P (k r) G' H' → R v H') : tE c f σ H R := by
  refine ⟨G, Γ, he, ?_⟩
  cases e : f Γ with
  | bad => rw [e] at h; exact (hb _ _ h).elim
  | ex x => rw [e] at h; exact hx _ _ _ h
  | ok r =>
    intro v G' H' g rv fr
    rw [e] at h
    exact hk r v G' H' e g rv fr (he.mono g) (hl _ _ _ _ _ g h)
theorem tT_bind {c : LC} {f : FT} {σ : St} {H : Hp} {G : Hp} {Γ : Env'} (he : EnvOk c G H σ Γ) {β : Type} {k : Bool → Re β} {R : Bool → Hp → Prop}
    {P : Re β → Hp → Hp → Prop} (hb : ∀ G H, P .bad G H → False) (hx : ∀ x G H, P (.ex x) G H → ∀ G' H', Gr G H G' H' → ExAt c (fun C d H' => c.W C d σ H') x G' H') (hl : ∀ r G H G' H', Gr G H G' H' → P r G H → P r G' H') (h : P ((f Γ).bind k) G H)
    (hk : ∀ r G' H', f Γ = .ok r → Gr G H G' H' → EnvOk c G' H' σ Γ → P (k r) G' H' → R r H') : tT c f σ H R := by
  refine ⟨G, Γ, he, ?_⟩
  cases e : f Γ with
  | bad => rw [e] at h; exact (hb _ _ h).elim
  | ex x => rw [e] at h; exact hx _ _ _ h
  | ok r =>
    intro G' H' g
    rw [e] at h
    exact hk r G' H' e g (he.mono g) (hl _ _ _ _ _ g h)
theorem tA_bind {c : LC} {f : FA} {σ : St} {H : Hp} {G : Hp} {Γ : Env'} (he : EnvOk c G H σ Γ) {β : Type} {k : List D → Re β} {R : List V → Hp → Prop}
    {P : Re β → Hp → Hp → Prop} (hb : ∀ G H, P .bad G H → False) (hx : ∀ x G H, P (.ex x) G H → ∀ G' H', Gr G H G' H' → ExAt c (fun C d H' => c.W C d σ H') x G' H') (hl : ∀ r G H G' H', Gr G H G' H' → P r G H → P r G' H') (h : P ((f Γ).bind k) G H)
    (hk : ∀ r vs G' H', f Γ = .ok r → Gr G H G' H' → Reps c.K G' vs r → EnvOk c G' H' σ Γ → P (k r) G' H' → R vs H') : tA c f σ H R := by
  refine ⟨G, Γ, he, ?_⟩
  cases e : f Γ with
  | bad => rw [e] at h; exact (hb _ _ h).elim
  | ex x => rw [e] at h; exact hx _ _ _ h
  | ok r =>
    intro vs G' H' g rv
    rw [e] at h
    exact hk r vs G' H' e g rv (he.mono g) (hl _ _ _ _ _ g h)
theorem Post.wish {c : LC} {σ : St} {Q : VK} : (∀ G H, Post c .bad σ G H Q → False) ∧ (∀ x G H, Post c (.ex x) σ G H Q → ∀ G' H', Gr G H G' H' → ExAt c (fun C d H' => c.W C d σ H') x G' H') ∧ (∀ r G H G' H', Gr G H G' H' → Post c r σ G H Q → Post c r σ G' H' Q) :=
  ⟨fun _ _ h => h, fun _ _ _ h => h, fun _ _ _ _ _ g h => h.later g⟩
theorem PostT.wish {c : LC} {σ : St} {Q : Bool → Hp → Prop} : (∀ G H, PostT c .bad σ G H Q → False) ∧ (∀ x G H, PostT c (.ex x) σ G H Q → ∀ G' H', Gr G H G' H' → ExAt c (fun C d H' => c.W C d σ H') x G' H') ∧ (∀ r G H G' H', Gr G H G' H' → PostT c r σ G H Q → PostT c r σ G' H' Q) :=
  ⟨fun _ _ h => h, fun _ _ _ h => h, fun _ _ _ _ _ g h => h.later g⟩
theorem PostA.wish {c : LC} {σ : St} {Q : List V → Hp → Prop} : (∀ G H, PostA c .bad σ G H Q → False) ∧ (∀ x G H, PostA c (.ex x) σ G H Q → ∀ G' H', Gr G H G' H' → ExAt c (fun C d H' => c.W C d σ H') x G' H') ∧ (∀ r G H G' H', Gr G H G' H' → PostA c r σ G H Q → PostA c r σ G' H' Q) :=
  ⟨fun _ _ h => h, fun _ _ _ h => h, fun _ _ _ _ _ g h => h.later g⟩
end
end Ly
end

section
set_option maxRecDepth 100000
namespace Ly
open PySem PySem.Spec L2
open PyProof.Rows hiding St
variable [Tb]

structure Cy (X : Cx) (c : LC) : Prop where
  K : X.K = c.K
  mg : X.mg = c.mg
  tk : L2N.Takes X c.W
  calm : X.calm = true
  nd : X.N.Nodup
  un : X.A.units + 64 < cLine

theorem EnvOk.sh {c : LC} {G H : Hp} {σ : St} {Γ : Env'} (e : EnvOk c G H σ Γ) : Same G H := e.gh

theorem eE {c : LC} {f : FE} {σ : St} {H : Hp} {G : Hp} {Γ : Env'} {Q : VK} {k : Rv → Re Rv} {R : VK} (he : EnvOk c G H σ Γ) (h : Post c ((f Γ).bind k) σ G H Q)
    (hk : ∀ r v G' H', f Γ = .ok r → Gr G H G' H' → RV c G' H' v r → Fresh H v r → EnvOk c G' H' σ Γ → Post c (k r) σ G' H' Q → R v H') : tE c f σ H R :=
  tE_bind (P := fun r G H => Post c r σ G H Q) he Post.wish.1 Post.wish.2.1 Post.wish.2.2 h hk
theorem eT {c : LC} {f : FE} {σ : St} {H : Hp} {G : Hp} {Γ : Env'} {Q : Bool → Hp → Prop} {k : Rv → Re Bool} {R : VK} (he : EnvOk c G H σ Γ) (h : PostT c ((f Γ).bind k) σ G H Q)
    (hk : ∀ r v G' H', f Γ = .ok r → Gr G H G' H' → RV c G' H' v r → Fresh H v r → EnvOk c G' H' σ Γ → PostT c (k r) σ G' H' Q → R v H') : tE c f σ H R :=
  tE_bind (P := fun r G H => PostT c r σ G H Q) he PostT.wish.1 PostT.wish.2.1 PostT.wish.2.2 h hk
theorem eA {c : LC} {f : FE} {σ : St} {H : Hp} {G : Hp} {Γ : Env'} {Q : List V → Hp → Prop} {k : Rv → Re (List D)} {R : VK} (he : EnvOk c G H σ Γ) (h : PostA c ((f Γ).bind k) σ G H Q)
    (hk : ∀ r v G' H', f Γ = .ok r → Gr G H G' H' → RV c G' H' v r → Fresh H v r → EnvOk c G' H' σ Γ → PostA c (k r) σ G' H' Q → R v H') : tE c f σ H R :=
  tE_bind (P := fun r G H => PostA c r σ G H Q) he PostA.wish.1 PostA.wish.2.1 PostA.wish.2.2 h hk
theorem tTE {c : LC} {f : FT} {σ : St} {H : Hp} {G : Hp} {Γ : Env'} {Q : VK} {k : Bool → Re Rv} {R : Bool → Hp → Prop} (he : EnvOk c G H σ Γ) (h : Post c ((f Γ).bind k) σ G H Q)
    (hk : ∀ r G' H', f Γ = .ok r → Gr G H G' H' → EnvOk c G' H' σ Γ → Post c (k r) σ G' H' Q → R r H') : tT c f σ H R :=
  tT_bind (P := fun r G H => Post c r σ G H Q) he Post.wish.1 Post.wish.2.1 Post.wish.2.2 h hk
theorem tTT {c : LC} {f : FT} {σ : St} {H : Hp} {G : Hp} {Γ : Env'} {Q : Bool → Hp → Prop} {k : Bool → Re Bool} {R : Bool → Hp → Prop} (he : EnvOk c G H σ Γ) (h : PostT c ((f Γ).bind k) σ G H Q)
    (hk : ∀ r G' H', f Γ = .ok r → Gr G H G' H' → EnvOk c G' H' σ Γ → PostT c (k r) σ G' H' Q → R r H') : tT c f σ H R :=
  tT_bind (P := fun r G H => PostT c r σ G H Q) he PostT.wish.1 PostT.wish.2.1 PostT.wish.2.2 h hk
theorem tAE {c : LC} {f : FA} {σ : St} {H : Hp} {G : Hp} {Γ : Env'} {Q : VK} {k : List D → Re Rv} {R : List V → Hp → Prop} (he : EnvOk c G H σ Γ) (h : Post c ((f Γ).bind k) σ G H Q)
    (hk : ∀ r vs G' H', f Γ = .ok r → Gr G H G' H' → Reps c.K G' vs r → EnvOk c G' H' σ Γ → Post c (k r) σ G' H' Q → R vs H') : tA c f σ H R :=
  tA_bind (P := fun r G H => Post c r σ G H Q) he Post.wish.1 Post.wish.2.1 Post.wish.2.2 h hk
theorem tAA {c : LC} {f : FA} {σ : St} {H : Hp} {G : Hp} {Γ : Env'} {Q : List V → Hp → Prop} {k : List D → Re (List D)} {R : List V → Hp → Prop} (he : EnvOk c G H σ Γ) (h : PostA c ((f Γ).bind k) σ G H Q)
    (hk : ∀ r vs G' H', f Γ = .ok r → Gr G H G' H' → Reps c.K G' vs r → EnvOk c G' H' σ Γ → PostA c (k r) σ G' H' Q → R vs H') : tA c f σ H R :=
  tA_bind (P := fun r G H => PostA c r σ G H Q) he PostA.wish.1 PostA.wish.2.1 PostA.wish.2.2 h hk
section
variable {X : Cx} {c : LC} {a b e : Expr} {f g h : FE} {pos : Pos}

def eV (i : Nat) : FE := fun Γ => match Γ[i]? with
  | some (some (.sh d)) => .ok (.sh d)
  | some (some (.fr d)) => .ok (.bo d)
  | _ => .bad
theorem re_v {i : Nat} {x : Str} (hN : X.N[i]? = some x) (hv : Vis X.env.scope x) (hd : (x == ("__debug__" : Str)) = false := by decide) (hcd : (x == ("__classdict__" : Str)) = false := by decide) :
    PE X (.Name x pos) (tE c (eV i)) := by
  refine PE.weak (pe_var hN hv hd hcd) ?_
  rintro σ H Q ⟨G, Γ, he, q⟩
  unfold eV at q
  split at q
  · rename_i d hi
    obtain ⟨v, h1, h2, _⟩ := he.at' i _ hi
    exact ⟨v, h1, q v G H (.refl he.gh) h2 True.intro⟩
  · rename_i d hi
    obtain ⟨v, h1, h2, _⟩ := he.at' i _ hi
    exact ⟨v, h1, q v G H (.refl he.gh) h2 True.intro⟩
  · exact q.elim
def eC (d : D) : FE := fun _ => .ok (.sh d)
theorem re_c {v : V} {d : D} (hp : PE X e (tC v)) (h : ∀ G, Rep c.K G v d) : PE X e (tE c (eC d)) :=
  PE.weak hp fun σ H Q ⟨G, Γ, he, q⟩ => q v G H (.refl he.gh) (h G) True.intro
theorem re_int {z : Int} {j} : PE X (.Constant (.int z) j pos) (tE c (eC (.i z))) := re_c pe_int fun _ => .i z
theorem re_bl {z : Bool} {j} : PE X (.Constant (.bool z) j pos) (tE c (eC (.b z))) := re_c pe_bl fun _ => .b z
theorem re_n {j} : PE X (.Constant .none j pos) (tE c (eC .n)) := re_c pe_non fun _ => .n
theorem re_s {z : Str} {j} : PE X (.Constant (.str z) j pos) (tE c (eC (.s z))) := re_c pe_str fun _ => .s z
theorem re_gl {x : Str} {v : V} {u : Value} {d : D} (hg : Gl X x) (hm : X.mg x = some u) (r : RelV v u) (h : ∀ G, Rep c.K G v d) (hd : (x == ("__debug__" : Str)) = false := by decide) : PE X (.Name x pos) (tE c (eC d)) :=
  re_c (pe_glob hg hm r hd) h

def e1 (k : Rv → Re Rv) (f : FE) : FE := fun Γ => (f Γ).bind k
def e2 (k : Rv → Rv → Re Rv) (f g : FE) : FE := fun Γ => (f Γ).bind fun x => (g Γ).bind fun y => k x y
def Ok1 (c : LC) (r : V → Hp → VK → Prop) (k : Rv → Re Rv) : Prop := ∀ (σ : St) (G H : Hp) (x : V) (rx : Rv) (Q : VK), Same G H → Kept c.B H → RV c G H x rx → Post c (k rx) σ G H Q → r x H Q
def Ok2 (c : LC) (r : R2) (k : Rv → Rv → Re Rv) : Prop := ∀ (σ : St) (G H : Hp) (x y : V) (rx ry : Rv) (Q : VK), Same G H → Kept c.B H → RV c G H x rx → RV c G H y ry → Post c (k rx ry) σ G H Q → r x y H Q
theorem tE_2 {k : Rv → Rv → Re Rv} {r : R2} (hk : Ok2 c r k) : ∀ σ H Q, tE c (e2 k f g) σ H Q → tOp r (tE c f) (tE c g) σ H Q := by
  rintro σ H Q ⟨G, Γ, he, q⟩
  refine eE he q fun rx x G1 H1 e1 g1 v1 fr1 he1 q1 => ?_
  refine eE he1 q1 fun ry y G2 H2 e2 g2 v2 fr2 he2 q2 => ?_
  exact hk σ G2 H2 x y rx ry Q he2.gh he2.bh (v1.mono g2) v2 q2
theorem tE_1 {k : Rv → Re Rv} {r : V → Hp → VK → Prop} (hk : Ok1 c r k) : ∀ σ H Q, tE c (e1 k f) σ H Q → tUn r (tE c f) σ H Q := by
  rintro σ H Q ⟨G, Γ, he, q⟩
  exact eE he q fun rx x G1 H1 _ g1 v1 fr1 he1 q1 => hk σ G1 H1 x rx Q he1.gh he1.bh v1 q1
theorem re_op {op : Operator} {k : Rv → Rv → Re Rv} {r : R2} (ho : OpR X (binaryOp op) r) (hk : Ok2 c r k) (ha : PE X a (tE c f)) (hb : PE X b (tE c g)) : PE X (.BinOp a op b pos) (tE c (e2 k f g)) :=
  PE.weak (pe_op ho ha hb) (tE_2 hk)
theorem re_un {op : UnaryOp} {k : Rv → Re Rv} {r : V → Hp → VK → Prop} (ho : UnR X (unaryOp op) r) (hk : Ok1 c r k) (ha : PE X a (tE c f)) : PE X (.UnaryOp op a pos) (tE c (e1 k f)) :=
  PE.weak (pe_un ho ha) (tE_1 hk)
theorem re_cmp {op : CmpOp} {k : Rv → Rv → Re Rv} {r : R2} (ho : OpR X (compareOp op) r) (hk : Ok2 c r k) (ha : PE X a (tE c f)) (hb : PE X b (tE c g)) (hm : behindInMarks op b = false) : PE X (.Compare a [op] [b] pos) (tE c (e2 k f g)) :=
  PE.weak (pe_cmpR ho ha hb hm) (tE_2 hk)

theorem RV.int {G H : Hp} {v : V} {r : Rv} {z : Int} (h : RV c G H v r) (e : r.d = .i z) : v = .int z := by
  cases r with
  | sh d => cases (show d = .i z from e); exact Rep.int_inv h
  | fr d => cases (show d = .i z from e); obtain ⟨_, _, _, _, o⟩ := h; cases o
  | bo d => cases (show d = .i z from e); obtain ⟨_, _, _, _, o⟩ := h; cases o
theorem RV.str {G H : Hp} {v : V} {r : Rv} {z : Str} (h : RV c G H v r) (e : r.d = .s z) : v = .str z := by
  cases r with
  | sh d => cases (show d = .s z from e); exact Rep.str_inv h
  | fr d => cases (show d = .s z from e); obtain ⟨_, _, _, _, o⟩ := h; cases o
  | bo d => cases (show d = .s z from e); obtain ⟨_, _, _, _, o⟩ := h; cases o
theorem RV.bl {G H : Hp} {v : V} {r : Rv} {z : Bool} (h : RV c G H v r) (e : r.d = .b z) : v = .bl z := by
  cases r with
  | sh d => cases (show d = .b z from e); exact Rep.bl_inv h
  | fr d => cases (show d = .b z from e); obtain ⟨_, _, _, _, o⟩ := h; cases o
  | bo d => cases (show d = .b z from e); obtain ⟨_, _, _, _, o⟩ := h; cases o
theorem RV.non {G H : Hp} {v : V} {r : Rv} (h : RV c G H v r) (e : r.d = .n) : v = .non := by
  cases r with
  | sh d => cases (show d = .n from e); exact Rep.n_inv h
  | fr d => cases (show d = .n from e); obtain ⟨_, _, _, _, o⟩ := h; cases o
  | bo d => cases (show d = .n from e); obtain ⟨_, _, _, _, o⟩ := h; cases o
theorem RV.lst {G H : Hp} {v : V} {r : Rv} {ds : List D} (gh : Same G H) (h : RV c G H v r) (e : r.d = .l ds) : ∃ p xs, v = .ref p ∧ H p = some (.lst xs) ∧ Reps c.K G xs ds := by
  cases r with
  | sh d => cases (show d = .l ds from e); obtain ⟨p, xs, e1, e2, e3⟩ := Rep.l_inv h; exact ⟨p, xs, e1, gh _ _ e2, e3⟩
  | fr d => cases (show d = .l ds from e); obtain ⟨p, e1, _, _, o⟩ := h; cases o with | l h1 h2 => exact ⟨p, _, e1, h1, h2⟩
  | bo d => cases (show d = .l ds from e); obtain ⟨p, e1, _, _, o⟩ := h; cases o with | l h1 h2 => exact ⟨p, _, e1, h1, h2⟩
theorem RV.tup {G H : Hp} {v : V} {r : Rv} {ds : List D} (h : RV c G H v r) (e : r.d = .t ds) : ∃ p xs, v = .ref p ∧ G p = some (.tup xs) ∧ Reps c.K G xs ds := by
  cases r with
  | sh d => cases (show d = .t ds from e); exact Rep.t_inv h
  | fr d => cases (show d = .t ds from e); obtain ⟨_, _, _, _, o⟩ := h; cases o
  | bo d => cases (show d = .t ds from e); obtain ⟨_, _, _, _, o⟩ := h; cases o
theorem Rep.z_inv {K : PySem.W.Frag} {G : Hp} {v : V} {ds : List D} (h : Rep K G v (.z ds)) : ∃ a xs, v = .ref a ∧ SqL K G a xs ∧ Reps K G xs ds := by
  cases h with | z h r => exact ⟨_, _, rfl, h, r⟩
theorem RV.zl {G H : Hp} {v : V} {r : Rv} {ds : List D} (h : RV c G H v r) (e : r.d = .z ds) : ∃ p xs, v = .ref p ∧ SqL c.K G p xs ∧ Reps c.K G xs ds := by
  cases r with
  | sh d => cases (show d = .z ds from e); exact Rep.z_inv h
  | fr d => cases (show d = .z ds from e); obtain ⟨_, _, _, _, o⟩ := h; cases o
  | bo d => cases (show d = .z ds from e); obtain ⟨_, _, _, _, o⟩ := h; cases o
theorem RV.ztup {G H : Hp} {v : V} {r : Rv} {ds : List D} (h : RV c G H v r) (e : r.d = .zt ds) : ∃ p xs, v = .ref p ∧ SqT c.K G p xs ∧ Reps c.K G xs ds := by
  cases r with
  | sh d => cases (show d = .zt ds from e); exact Rep.zt_inv h
  | fr d => cases (show d = .zt ds from e); obtain ⟨_, _, _, _, o⟩ := h; cases o
  | bo d => cases (show d = .zt ds from e); obtain ⟨_, _, _, _, o⟩ := h; cases o
def D.seq? : D → Option (List D)
  | .l ds => some ds | .z ds => some ds | _ => none
theorem RV.sql {G H : Hp} {v : V} {r : Rv} {ds : List D} (gh : Same G H) (h : RV c G H v r) (e : r.d.seq? = some ds) : ∃ p xs, v = .ref p ∧ SqL c.K H p xs ∧ Reps c.K G xs ds := by
  cases q : r.d with
  | l es =>
    rw [q] at e; cases e
    obtain ⟨p, xs, e1, e2, e3⟩ := h.lst gh q
    exact ⟨p, xs, e1, .of e2, e3⟩
  | z es =>
    rw [q] at e; cases e
    obtain ⟨p, xs, e1, e2, e3⟩ := h.zl q
    exact ⟨p, xs, e1, gh.seq e2, e3⟩
  | _ => rw [q] at e; cases e
theorem post_sh {σ : St} {G H : Hp} {Q : VK} {v : V} {d : D} (gh : Same G H) (q : Post c (.ok (.sh d)) σ G H Q) (h : Rep c.K G v d) : Q v H := q v G H (.refl gh) h True.intro
theorem post_lst {σ : St} {G H : Hp} {Q : VK} {ds : List D} {xs : List V} (bh : Kept c.B H) (gh : Same G H) (q : Post c (.ok (.fr (.l ds))) σ G H Q) (h : Reps c.K G xs ds) : ∀ p, H p = none → Q (.ref p) (upd H p (.lst xs)) := fun p hp =>
  q _ G _ (.own gh hp) ⟨p, rfl, Kept.free bh hp, gh.free hp, .l upd_same h⟩ ⟨p, rfl, .of hp⟩
theorem post_tup {σ : St} {G H : Hp} {Q : VK} {ds : List D} {xs : List V} (gh : Same G H) (q : Post c (.ok (.sh (.t ds))) σ G H Q) (h : Reps c.K G xs ds) : ∀ p, H p = none → Q (.ref p) (upd H p (.tup xs)) := fun p hp => by
  have g := Gr.new (o := .tup xs) gh hp
  exact q _ _ _ g (Rep.t upd_same (h.mono g.gg)) True.intro
theorem post_dk0 {σ : St} {G H : Hp} {Q : VK} (bh : Kept c.B H) (gh : Same G H) (q : Post c (.ok (.fr (.dk [] []))) σ G H Q) : ∀ p, H p = none → Q (.ref p) (upd H p (.dK [])) := fun p hp =>
  q _ G _ (.own gh hp) ⟨p, rfl, Kept.free bh hp, gh.free hp, .dk upd_same rfl .nil⟩ ⟨p, rfl, .of hp⟩
theorem post_dt0 {σ : St} {G H : Hp} {Q : VK} (bh : Kept c.B H) (gh : Same G H) (q : Post c (.ok (.fr (.dt [] []))) σ G H Q) : ∀ p, H p = none → Q (.ref p) (upd H p (.dT [])) := fun p hp =>
  q _ G _ (.own gh hp) ⟨p, rfl, Kept.free bh hp, gh.free hp, .dt upd_same rfl .nil⟩ ⟨p, rfl, .of hp⟩

def kI (f : Int → Int → Re Rv) : Rv → Rv → Re Rv := fun x y => match x.d, y.d with
  | .i p, .i q => f p q
  | _, _ => .bad
def oki (z : Int) : Re Rv := .ok (.sh (.i z))
def okb (z : Bool) : Re Rv := .ok (.sh (.b z))
theorem ok2_I {C : Int → Int → Prop} {h : Int → Int → Int} {f : Int → Int → Re Rv} (hf : ∀ i j, f i j = oki (h i j) ∧ C i j ∨ f i j = .bad) : Ok2 c (rI C fun i j => .int (h i j)) (kI f) := by
  intro σ G H x y rx ry Q gh bh hx hy q
  unfold kI at q
  split at q
  · rename_i i j e1 e2
    rcases hf i j with ⟨e, hc⟩ | e
    · rw [e] at q
      exact ⟨i, j, hx.int e1, hy.int e2, hc, post_sh gh q (.i _)⟩
    · rw [e] at q; exact q.elim
  · exact q.elim
theorem ok2_I0 {h : Int → Int → Int} : Ok2 c (rI0 fun i j => .int (h i j)) (kI fun i j => oki (h i j)) := by
  intro σ G H x y rx ry Q gh bh hx hy q
  unfold kI at q
  split at q
  · rename_i i j e1 e2
    exact ⟨i, j, hx.int e1, hy.int e2, post_sh gh q (.i _)⟩
  · exact q.elim
theorem ok2_B0 {h : Int → Int → Bool} : Ok2 c (rI0 fun i j => .bl (h i j)) (kI fun i j => okb (h i j)) := by
  intro σ G H x y rx ry Q gh bh hx hy q
  unfold kI at q
  split at q
  · rename_i i j e1 e2
    exact ⟨i, j, hx.int e1, hy.int e2, post_sh gh q (.b _)⟩
  · exact q.elim
theorem Ok2.or {r r' : R2} {k k' : Rv → Rv → Re Rv} (h : Ok2 c r k) (h' : Ok2 c r' k') : Ok2 c (fun x y H Q => r x y H Q ∨ r' x y H Q) (fun x y => match k x y with | .bad => k' x y | o => o) := by
  intro σ G H x y rx ry Q gh bh hx hy q
  dsimp only at q
  cases e : k rx ry with
  | bad => rw [e] at q; exact .inr (h' σ G H x y rx ry Q gh bh hx hy q)
  | ok o => rw [e] at q; exact .inl (h σ G H x y rx ry Q gh bh hx hy (by rw [e]; exact q))
  | ex o => rw [e] at q; exact .inl (h σ G H x y rx ry Q gh bh hx hy (by rw [e]; exact q))
def kAdd : Rv → Rv → Re Rv := fun x y => match x.d, y.d with
  | .i p, .i q => oki (p + q)
  | .s p, .s q => if p.length + q.length ≤ sizeLine then .ok (.sh (.s (p ++ q))) else .bad
  | .l p, .l q => if p.length + q.length ≤ sizeLine then .ok (.fr (.l (p ++ q))) else .bad
  | .t p, .t q => if p.length + q.length ≤ sizeLine then .ok (.sh (.t (p ++ q))) else .bad
  | _, _ => .bad
def rAddS : R2 := fun x y H Q => ∃ i j, x = .str i ∧ y = .str j ∧ i.length + j.length ≤ sizeLine ∧ Q (.str (i ++ j)) H
def rAddAll (K : PySem.W.Frag) : R2 := fun x y H Q => (rI0 (fun i j => .int (i + j)) x y H Q ∨ rAddS x y H Q) ∨ (rCat x y H Q ∨ rCatA K x y H Q)
theorem op_addAll : OpR X (binaryOp .Add) (rAddAll X.K) := OpR.or (OpR.or op_add op_add_str) (OpR.or op_cat op_catA)
theorem ok2_add : Ok2 c (rAddAll c.K) kAdd := by
  intro σ G H x y rx ry Q gh bh hx hy q
  unfold kAdd at q
  split at q
  · rename_i i j e1 e2
    exact .inl (.inl ⟨i, j, hx.int e1, hy.int e2, post_sh gh q (.i _)⟩)
  · rename_i i j e1 e2
    split at q
    · exact .inl (.inr ⟨i, j, hx.str e1, hy.str e2, by assumption, post_sh gh q (.s _)⟩)
    · exact q.elim
  · rename_i i j e1 e2
    split at q
    · obtain ⟨p, xs, h1, h2, h3⟩ := hx.lst gh e1
      obtain ⟨p', ys, h1', h2', h3'⟩ := hy.lst gh e2
      exact .inr (.inl ⟨p, p', xs, ys, h1, h1', h2, h2', by rw [h3.length, h3'.length]; assumption, post_lst bh gh q (h3.append h3')⟩)
    · exact q.elim
  · rename_i i j e1 e2
    split at q
    · obtain ⟨p, xs, h1, h2, h3⟩ := hx.tup e1
      obtain ⟨p', ys, h1', h2', h3'⟩ := hy.tup e2
      refine .inr (.inr ⟨p, p', xs, ys, h1, h1', SqT.of (gh _ _ h2), SqT.of (gh _ _ h2'), by rw [h3.length, h3'.length]; assumption, fun e => ?_, fun _ e => ?_, fun _ _ => post_tup gh q (h3.append h3')⟩)
      · subst e
        cases h3
        exact post_sh gh q (.t h2' (by simpa using h3'))
      · subst e
        cases h3'
        exact post_sh gh q (.t h2 (by simpa using h3))
    · exact q.elim
  · exact q.elim
theorem re_add (cy : Cy X c) (ha : PE X a (tE c f)) (hb : PE X b (tE c g)) : PE X (.BinOp a .Add b pos) (tE c (e2 kAdd f g)) := by
  refine re_op (r := rAddAll c.K) ?_ ok2_add ha hb
  rw [← cy.K]; exact op_addAll
def kSub : Rv → Rv → Re Rv := kI fun i j => oki (i - j)
theorem re_sub (ha : PE X a (tE c f)) (hb : PE X b (tE c g)) : PE X (.BinOp a .Sub b pos) (tE c (e2 kSub f g)) := re_op op_sub ok2_I0 ha hb
def kMul : Rv → Rv → Re Rv := fun x y => match x.d, y.d with
  | .i p, .i q => if (-(2 ^ 64) < p ∧ p < 2 ^ 64) ∨ (-(2 ^ 64) < q ∧ q < 2 ^ 64) then oki (p * q) else .bad
  | .l p, .i q => if -(2 ^ 63) ≤ q ∧ q < 2 ^ 63 ∧ p.length * q.toNat ≤ sizeLine then .ok (.fr (.l (List.replicate q.toNat p).flatten)) else .bad
  | _, _ => .bad
theorem Reps.rep {K : PySem.W.Frag} {G : Hp} {xs : List V} {ds : List D} (h : Reps K G xs ds) : ∀ n : Nat, Reps K G (List.replicate n xs).flatten (List.replicate n ds).flatten
  | 0 => .nil
  | n + 1 => by
    rw [List.replicate_succ, List.replicate_succ, List.flatten_cons, List.flatten_cons]
    exact h.append (Reps.rep h n)
theorem ok2_mul : Ok2 c (fun x y H Q => rI CMul (fun i j => .int (i * j)) x y H Q ∨ rRep x y H Q) kMul := by
  intro σ G H x y rx ry Q gh bh hx hy q
  unfold kMul at q
  split at q
  · rename_i i j e1 e2
    split at q
    · exact .inl ⟨i, j, hx.int e1, hy.int e2, by assumption, post_sh gh q (.i _)⟩
    · exact q.elim
  · rename_i i j e1 e2
    split at q
    · rename_i hc
      obtain ⟨p, xs, h1, h2, h3⟩ := hx.lst gh e1
      exact .inr ⟨p, j, xs, h1, hy.int e2, h2, hc.1, hc.2.1, by rw [h3.length]; exact hc.2.2, post_lst bh gh q (h3.rep _)⟩
    · exact q.elim
  · exact q.elim
theorem re_mul (ha : PE X a (tE c f)) (hb : PE X b (tE c g)) : PE X (.BinOp a .Mult b pos) (tE c (e2 kMul f g)) := re_op (OpR.or op_mul op_rep) ok2_mul ha hb
def kMod : Rv → Rv → Re Rv := kI fun i j => if 0 < j then oki (i % j) else .bad
theorem re_mod (ha : PE X a (tE c f)) (hb : PE X b (tE c g)) : PE X (.BinOp a .Mod b pos) (tE c (e2 kMod f g)) :=
  re_op op_mod (ok2_I (h := fun i j => i % j) fun i j => by by_cases hj : 0 < j <;> simp [hj]) ha hb
def kDiv : Rv → Rv → Re Rv := kI fun i j => if 0 < j ∧ j < 1073741824 then oki (i / j) else .bad
theorem re_div (ha : PE X a (tE c f)) (hb : PE X b (tE c g)) : PE X (.BinOp a .FloorDiv b pos) (tE c (e2 kDiv f g)) :=
  re_op op_fdiv (ok2_I (h := fun i j => i / j) fun i j => by
    by_cases hj : 0 < j ∧ j < 1073741824
    · left; rw [if_pos hj]; exact ⟨rfl, hj⟩
    · right; rw [if_neg hj]) ha hb
def kPow : Rv → Rv → Re Rv := kI fun i j => if 0 ≤ j ∧ j ≤ 1000000 ∧ i.natAbs < 2 ^ 64 then oki (i ^ j.toNat) else .bad
theorem re_pow (ha : PE X a (tE c f)) (hb : PE X b (tE c g)) : PE X (.BinOp a .Pow b pos) (tE c (e2 kPow f g)) :=
  re_op op_pow (ok2_I (h := fun i j => i ^ j.toNat) fun i j => by
    by_cases hj : 0 ≤ j ∧ j ≤ 1000000 ∧ i.natAbs < 2 ^ 64
    · left; rw [if_pos hj]; exact ⟨rfl, hj⟩
    · right; rw [if_neg hj]) ha hb
def kNeg : Rv → Re Rv := fun x => match x.d with | .i p => oki (-p) | _ => .bad
theorem re_neg (ha : PE X a (tE c f)) : PE X (.UnaryOp .USub a pos) (tE c (e1 kNeg f)) := by
  refine re_un un_neg ?_ ha
  intro σ G H x rx Q gh bh hx q
  unfold kNeg at q
  split at q
  · rename_i p e
    exact ⟨p, hx.int e, post_sh gh q (.i _)⟩
  · exact q.elim

def kLt : Rv → Rv → Re Rv := kI fun i j => okb (decide (i < j))
def kLe : Rv → Rv → Re Rv := kI fun i j => okb (decide (i ≤ j))
def kGt : Rv → Rv → Re Rv := kI fun i j => okb (decide (j < i))
def kGe : Rv → Rv → Re Rv := kI fun i j => okb (decide (j ≤ i))
structure CmpD (X : Cx) (c : LC) (op : CmpOp) (k : Rv → Rv → Re Rv) : Prop where
  ex : ∃ r : R2, OpR X (compareOp op) r ∧ Ok2 c r k
theorem cd_lt : CmpD X c .Lt kLt := ⟨_, op_lt, ok2_B0⟩
theorem cd_le : CmpD X c .LtE kLe := ⟨_, op_le, ok2_B0⟩
theorem cd_gt : CmpD X c .Gt kGt := ⟨_, op_gt, ok2_B0⟩
theorem cd_ge : CmpD X c .GtE kGe := ⟨_, op_ge, ok2_B0⟩
theorem re_cd {op : CmpOp} {k : Rv → Rv → Re Rv} (h : CmpD X c op k) (ha : PE X a (tE c f)) (hb : PE X b (tE c g)) (hm : behindInMarks op b = false) : PE X (.Compare a [op] [b] pos) (tE c (e2 k f g)) := by
  obtain ⟨r, h1, h2⟩ := h.ex
  exact re_cmp h1 h2 ha hb hm
def eCh (k k' : Rv → Rv → Re Rv) (f g h : FE) : FE := fun Γ => (f Γ).bind fun x => (g Γ).bind fun y => (k x y).bind fun z => match z with
  | .sh (.b true) => (h Γ).bind fun w => k' y w
  | .sh (.b false) => .ok (.sh (.b false))
  | _ => .bad
theorem re_chain {op op' : CmpOp} {k k' : Rv → Rv → Re Rv} {d : Expr} (h1 : CmpD X c op k) (h2 : CmpD X c op' k') (ha : PE X a (tE c f)) (hb : PE X b (tE c g)) (hd : PE X d (tE c h))
    (hm : lastMarks [op, op'] [b, d] = false := by with_unfolding_all rfl) : PE X (.Compare a [op, op'] [b, d] pos) (tE c (eCh k k' f g h)) := by
  obtain ⟨r, o1, k1⟩ := h1.ex
  obtain ⟨r', o2, k2⟩ := h2.ex
  refine PE.weak (pe_chain o1 o2 ha hb hd hm) ?_
  rintro σ H Q ⟨G, Γ, he, q⟩
  refine eE he q fun rx x G1 H1 e1 g1 v1 fr1 he1 q1 => ?_
  refine eE he1 q1 fun ry y G2 H2 e2 g2 v2 fr2 he2 q2 => ?_
  have v1' := v1.mono g2
  refine k1 σ G2 H2 x y rx ry _ he2.gh he2.bh v1' v2 ?_
  cases e : k rx ry with
  | bad => rw [e] at q2; exact q2
  | ex o => rw [e] at q2; exact q2
  | ok z =>
    rw [e] at q2
    simp only [Re.bind_ok] at q2
    intro v G3 H3 g3 v3 fr3
    have he3 := he2.mono g3
    split at q2
    · cases (Rep.bl_inv v3)
      refine ⟨true, rfl, ?_⟩
      rw [if_pos rfl]
      have q3 : Post c ((h Γ).bind fun w => k' ry w) σ G3 H3 Q := Post.later g3 q2
      refine eE he3 q3 fun rw' w G4 H4 e4 g4 v4 fr4 he4 q4 => ?_
      exact k2 σ G4 H4 y w ry rw' Q he4.gh he4.bh ((v2.mono g3).mono g4) v4 q4
    · cases (Rep.bl_inv v3)
      refine ⟨false, rfl, ?_⟩
      rw [if_neg Bool.false_ne_true]
      exact q2 _ G3 H3 g3 (.b false) True.intro
    · exact q2.elim
end
end Ly
end

section
set_option maxRecDepth 100000
namespace Ly
open PySem PySem.Spec L2
open PyProof.Rows hiding St
variable [Tb]

mutual
def D.py : D → PyData
  | .n => .none | .b x => .bool x | .i x => .int x | .s x => .str x
  | .l xs => .list (D.pys xs) | .t xs => .tuple (D.pys xs) | .z xs => .list (D.pys xs) | .zt xs => .tuple (D.pys xs)
  | .dk _ _ => .dict [] | .dt _ _ => .dict [] | .o _ => .none
def D.pys : List D → List PyData
  | [] => []
  | x :: xs => D.py x :: D.pys xs
end
def deq (x y : D) : Bool := PyData.eqv x.py y.py
def dok : Nat → D → Bool
  | _, .n => true | _, .b _ => true | _, .i _ => true | _, .s x => PyData.strOk x
  | n + 1, .l xs => xs.all (dok n) | n + 1, .t xs => xs.all (dok n) | n + 1, .zt xs => xs.all (dok n)
  | _, _ => false
theorem pys_map : ∀ xs : List D, D.pys xs = xs.map D.py
  | [] => rfl
  | x :: xs => by rw [D.pys, pys_map xs]; rfl
theorem dok_py : ∀ (n : Nat) (d : D), dok n d = true → d.py.canLay0 = true ∧ d.py.depth ≤ n := by
  intro n
  induction n with
  | zero =>
    intro d h
    cases d with
    | n => exact ⟨by rw [D.py, PyData.canLay0], by rw [D.py, PyData.depth] <;> exact Nat.zero_le _⟩
    | b x => exact ⟨by rw [D.py, PyData.canLay0], by rw [D.py, PyData.depth] <;> exact Nat.zero_le _⟩
    | i z => exact ⟨by rw [D.py, PyData.canLay0], by rw [D.py, PyData.depth] <;> exact Nat.zero_le _⟩
    | s x => exact ⟨by rw [D.py, PyData.canLay0]; exact h, by rw [D.py, PyData.depth] <;> exact Nat.zero_le _⟩
    | _ => cases h
  | succ n ih =>
    have all : ∀ xs : List D, xs.all (dok n) = true → PyData.canLayAll0 (D.pys xs) = true ∧ PyData.depthAll (D.pys xs) ≤ n := by
      intro xs
      induction xs with
      | nil => intro _; exact ⟨by rw [D.pys, PyData.canLayAll0], by rw [D.pys, PyData.depthAll]; exact Nat.zero_le _⟩
      | cons x xs ihx =>
        intro h
        rw [List.all_cons, Bool.and_eq_true] at h
        obtain ⟨h1, h2⟩ := ih x h.1
        obtain ⟨h3, h4⟩ := ihx h.2
        refine ⟨by rw [D.pys, PyData.canLayAll0, h1, h3]; rfl, ?_⟩
        rw [D.pys, PyData.depthAll]
        exact Nat.max_le.mpr ⟨h2, h4⟩
    intro d h
    cases d with
    | n => exact ⟨by rw [D.py, PyData.canLay0], by rw [D.py, PyData.depth] <;> exact Nat.zero_le _⟩
    | b x => exact ⟨by rw [D.py, PyData.canLay0], by rw [D.py, PyData.depth] <;> exact Nat.zero_le _⟩
    | i z => exact ⟨by rw [D.py, PyData.canLay0], by rw [D.py, PyData.depth] <;> exact Nat.zero_le _⟩
    | s x => exact ⟨by rw [D.py, PyData.canLay0]; exact h, by rw [D.py, PyData.depth] <;> exact Nat.zero_le _⟩
    | l xs =>
      obtain ⟨h1, h2⟩ := all xs h
      exact ⟨by rw [D.py, PyData.canLay0]; exact h1, by rw [D.py, PyData.depth]; omega⟩
    | t xs =>
      obtain ⟨h1, h2⟩ := all xs h
      exact ⟨by rw [D.py, PyData.canLay0]; exact h1, by rw [D.py, PyData.depth]; omega⟩
    | zt xs =>
      obtain ⟨h1, h2⟩ := all xs h
      exact ⟨by rw [D.py, PyData.canLay0]; exact h1, by rw [D.py, PyData.depth]; omega⟩
    | _ => cases h
theorem dok_shaped {n : Nat} {d : D} (h : dok n d = true) (hn : n ≤ 64) : SeqAt.shaped d.py = true := by
  obtain ⟨h1, h2⟩ := dok_py n d h
  unfold SeqAt.shaped
  rw [h1, Bool.true_and]
  exact decide_eq_true (Nat.le_trans h2 hn)
section
variable {K : PySem.W.Frag} {G : Hp}
theorem dp_of : ∀ (n : Nat) (d : D) (v : V), Rep K G v d → dok n d = true → Dp K G v d.py := by
  intro n
  induction n with
  | zero =>
    intro d v r h
    cases r with
    | n => rw [D.py]; exact .non
    | b x => rw [D.py]; exact .bl _
    | i z => rw [D.py]; exact .int _
    | s x => rw [D.py]; exact .str _
    | _ => cases h
  | succ n ih =>
    have all : ∀ (ds : List D) (vs : List V), Reps K G vs ds → ds.all (dok n) = true → DpAll K G vs (D.pys ds) := by
      intro ds
      induction ds with
      | nil => intro vs r _; cases r; rw [D.pys]; exact .nil
      | cons x xs ihx =>
        intro vs r h
        cases r with
        | cons r1 r2 =>
          rw [List.all_cons, Bool.and_eq_true] at h
          rw [D.pys]
          exact .cons (ih _ _ r1 h.1) (ihx _ r2 h.2)
    intro d v r h
    cases r with
    | n => rw [D.py]; exact .non
    | b x => rw [D.py]; exact .bl _
    | i z => rw [D.py]; exact .int _
    | s x => rw [D.py]; exact .str _
    | l h1 h2 => rw [D.py]; exact .lst (.of h1) (all _ _ h2 h)
    | t h1 h2 => rw [D.py]; exact .tup (SqT.of h1) (all _ _ h2 h)
    | zt h1 h2 => rw [D.py]; exact .tup h1 (all _ _ h2 h)
    | _ => cases h
theorem dpAll_of {n : Nat} : ∀ (ds : List D) (vs : List V), Reps K G vs ds → ds.all (dok n) = true → DpAll K G vs (D.pys ds)
  | [], _, .nil, _ => by rw [D.pys]; exact .nil
  | x :: xs, _, .cons r1 r2, h => by
    rw [List.all_cons, Bool.and_eq_true] at h
    rw [D.pys]
    exact .cons (dp_of n _ _ r1 h.1) (dpAll_of xs _ r2 h.2)
mutual
theorem Dp.up {G' : Hp} (e : Same G G') : ∀ {v : V} {d : PyData}, Dp K G v d → Dp K G' v d
  | _, _, .non => .non
  | _, _, .bl _ => .bl _
  | _, _, .int _ => .int _
  | _, _, .str _ => .str _
  | _, _, .lst h r => .lst (e.seq h) (DpAll.up e r)
  | _, _, .tup h r => .tup (Same.tup e h) (DpAll.up e r)
theorem DpAll.up {G' : Hp} (e : Same G G') : ∀ {v : List V} {d : List PyData}, DpAll K G v d → DpAll K G' v d
  | _, _, .nil => .nil
  | _, _, .cons h r => .cons (Dp.up e h) (DpAll.up e r)
end
end
section
variable {c : LC}
theorem RV.dp {G H : Hp} {v : V} {r : Rv} (gh : Same G H) (h : RV c G H v r) (n : Nat) (hd : dok (n + 1) r.d = true) : Dp c.K H v r.d.py := by
  cases r with
  | sh d => exact Dp.up gh (dp_of _ _ _ h hd)
  | fr d =>
    obtain ⟨p, rfl, _, _, o⟩ := h
    cases o with
    | l h1 h2 => show Dp c.K H _ (D.py (.l _)); rw [D.py]; exact .lst (.of h1) (DpAll.up gh (dpAll_of (n := n) _ _ h2 hd))
    | dk h1 _ h2 => cases hd
    | dt h1 _ h2 => cases hd
  | bo d =>
    obtain ⟨p, rfl, _, _, o⟩ := h
    cases o with
    | l h1 h2 => show Dp c.K H _ (D.py (.l _)); rw [D.py]; exact .lst (.of h1) (DpAll.up gh (dpAll_of (n := n) _ _ h2 hd))
    | dk h1 _ h2 => cases hd
    | dt h1 _ h2 => cases hd
def kEq : Rv → Rv → Re Rv := fun x y => if dok 12 x.d = true ∧ dok 12 y.d = true then okb (deq x.d y.d) else .bad
def kNe : Rv → Rv → Re Rv := fun x y => if dok 12 x.d = true ∧ dok 12 y.d = true then okb (!deq x.d y.d) else .bad
theorem ok2_eq : Ok2 c (rEqD c.K) kEq := by
  intro σ G H x y rx ry Q gh bh hx hy q
  unfold kEq at q
  split at q
  · rename_i hd
    exact ⟨_, _, hx.dp gh 11 hd.1, hy.dp gh 11 hd.2, dok_shaped hd.1 (by decide), dok_shaped hd.2 (by decide), post_sh gh q (.b _)⟩
  · exact q.elim
theorem ok2_ne : Ok2 c (rNeD c.K) kNe := by
  intro σ G H x y rx ry Q gh bh hx hy q
  unfold kNe at q
  split at q
  · rename_i hd
    exact ⟨_, _, hx.dp gh 11 hd.1, hy.dp gh 11 hd.2, dok_shaped hd.1 (by decide), dok_shaped hd.2 (by decide), post_sh gh q (.b _)⟩
  · exact q.elim
variable {X : Cx}
theorem cd_eq (cy : Cy X c) : CmpD X c .Eq kEq := ⟨_, cy.K ▸ op_eqD cy.un, ok2_eq⟩
theorem cd_ne (cy : Cy X c) : CmpD X c .NotEq kNe := ⟨_, cy.K ▸ op_neD cy.un, ok2_ne⟩
def isN : Rv → Bool
  | .sh .n => true | _ => false
def kIs (neg : Bool) : Rv → Rv → Re Rv := fun x y => match y with
  | .sh .n => okb (if neg then !isN x else isN x)
  | _ => .bad
theorem RV.isN {G H : Hp} {v : V} {r : Rv} (h : RV c G H v r) : decide (v = .non) = isN r := by
  cases r with
  | sh d =>
    have h : Rep c.K G v d := h
    cases h <;> rfl
  | fr d => obtain ⟨p, rfl, _⟩ := h; rfl
  | bo d => obtain ⟨p, rfl, _⟩ := h; rfl
end

section
variable {X : Cx} {c : LC} {a b e : Expr} {f g : FE} {ft gt : FT} {pos : Pos}
theorem re_isN {j pos'} (ha : PE X a (tE c f)) : PE X (.Compare a [.Is] [.Constant .none j pos'] pos) (tE c (e2 (kIs false) f (eC .n))) := by
  refine PE.weak (pe_cmp (pc_isN ha)) ?_
  rintro σ H Q ⟨G, Γ, he, q⟩
  refine eE he q fun rx x G1 H1 e1 g1 v1 fr1 he1 q1 => ?_
  have q1 : Post c (okb (isN rx)) σ G1 H1 Q := q1
  rw [v1.isN]
  exact post_sh he1.gh q1 (.b _)
theorem re_notN {j pos'} (ha : PE X a (tE c f)) : PE X (.Compare a [.IsNot] [.Constant .none j pos'] pos) (tE c (e2 (kIs true) f (eC .n))) := by
  refine PE.weak (pe_cmp (pc_notN ha)) ?_
  rintro σ H Q ⟨G, Γ, he, q⟩
  refine eE he q fun rx x G1 H1 e1 g1 v1 fr1 he1 q1 => ?_
  have q1 : Post c (okb (!isN rx)) σ G1 H1 Q := q1
  show Q (.bl (!decide (x = .non))) H1
  rw [v1.isN]
  exact post_sh he1.gh q1 (.b _)
def kB : Rv → Re Bool
  | .sh (.b x) => .ok x
  | _ => .bad
def tV (f : FE) : FT := fun Γ => (f Γ).bind kB
theorem kB_ok {G H : Hp} {v : V} {r : Rv} {σ : St} {Q : Bool → Hp → Prop} (gh : Same G H) (h : RV c G H v r) (q : PostT c (kB r) σ G H Q) : ∃ k, v = .bl k ∧ Q k H := by
  unfold kB at q
  split at q
  · cases (Rep.bl_inv h)
    exact ⟨_, rfl, q G H (.refl gh)⟩
  · exact q.elim
theorem rt_cmp {op : CmpOp} {k : Rv → Rv → Re Rv} (h : CmpD X c op k) (ha : PE X a (tE c f)) (hb : PE X b (tE c g)) (hm : behindInMarks op b = false) : PT X (.Compare a [op] [b] pos) (tT c (tV (e2 k f g))) := by
  obtain ⟨r, h1, h2⟩ := h.ex
  refine PT.weak (pt_cmpR h1 ha hb hm) ?_
  rintro σ H Q ⟨G, Γ, he, q⟩
  exact tE_2 h2 σ H _ ⟨G, Γ, he, by
    have q : PostT c ((e2 k f g Γ).bind kB) σ G H Q := q
    cases e : e2 k f g Γ with
    | bad => rw [e] at q; exact q
    | ex x => rw [e] at q; exact q
    | ok r =>
      rw [e] at q
      exact fun v G' H' g' rv _ => kB_ok g'.gh rv (PostT.later g' q)⟩
theorem tV_test {t : TE} (hp : PT X a (tTest t)) (ht : ∀ σ H Q, tE c f σ H Q → t σ H Q) : PT X a (tT c (tV f)) := by
  refine PT.weak hp ?_
  rintro σ H Q ⟨G, Γ, he, q⟩
  exact ht σ H _ ⟨G, Γ, he, by
    have q : PostT c ((f Γ).bind kB) σ G H Q := q
    cases e : f Γ with
    | bad => rw [e] at q; exact q
    | ex x => rw [e] at q; exact q
    | ok r =>
      rw [e] at q
      exact fun v G' H' g' rv _ => kB_ok g'.gh rv (PostT.later g' q)⟩
theorem chain_weak {k k' : Rv → Rv → Re Rv} {r r' : R2} {h : FE} (k1 : Ok2 c r k) (k2 : Ok2 c r' k') : ∀ σ H Q, tE c (eCh k k' f g h) σ H Q → tChain r r' (tE c f) (tE c g) (tE c h) σ H Q := by
  rintro σ H Q ⟨G, Γ, he, q⟩
  refine eE he q fun rx x G1 H1 e1 g1 v1 fr1 he1 q1 => ?_
  refine eE he1 q1 fun ry y G2 H2 e2 g2 v2 fr2 he2 q2 => ?_
  have v1' := v1.mono g2
  refine k1 σ G2 H2 x y rx ry _ he2.gh he2.bh v1' v2 ?_
  cases e : k rx ry with
  | bad => rw [e] at q2; exact q2
  | ex o => rw [e] at q2; exact q2
  | ok z =>
    rw [e] at q2
    simp only [Re.bind_ok] at q2
    intro v G3 H3 g3 v3 fr3
    have he3 := he2.mono g3
    split at q2
    · cases (Rep.bl_inv v3)
      refine ⟨true, rfl, ?_⟩
      rw [if_pos rfl]
      have q3 : Post c ((h Γ).bind fun w => k' ry w) σ G3 H3 Q := Post.later g3 q2
      refine eE he3 q3 fun rw' w G4 H4 e4 g4 v4 fr4 he4 q4 => ?_
      exact k2 σ G4 H4 y w ry rw' Q he4.gh he4.bh ((v2.mono g3).mono g4) v4 q4
    · cases (Rep.bl_inv v3)
      refine ⟨false, rfl, ?_⟩
      rw [if_neg Bool.false_ne_true]
      exact q2 _ G3 H3 g3 (.b false) True.intro
    · exact q2.elim
theorem rt_chain {op op' : CmpOp} {k k' : Rv → Rv → Re Rv} {d : Expr} {h : FE} (h1 : CmpD X c op k) (h2 : CmpD X c op' k') (ha : PE X a (tE c f)) (hb : PE X b (tE c g)) (hd : PE X d (tE c h))
    (hm : lastMarks [op, op'] [b, d] = false := by with_unfolding_all rfl) : PT X (.Compare a [op, op'] [b, d] pos) (tT c (tV (eCh k k' f g h))) := by
  obtain ⟨r, o1, k1⟩ := h1.ex
  obtain ⟨r', o2, k2⟩ := h2.ex
  exact tV_test (pt_chain o1 o2 ha hb hd hm) (chain_weak k1 k2)
theorem rt_val (ha : PE X a (tE c f)) (he : ∀ whole, isTrue a X.env whole = (do let v ← whole; standAt a.pos; holding [v] (truthy v)) := by intro _; rfl) : PT X a (tT c (tV f)) :=
  tV_test (t := tE c f) (PT.weak (pt_val ha he) fun σ H Q q => q) fun σ H Q q => q
def tNotF (f : FT) : FT := fun Γ => (f Γ).bind fun x => .ok (!x)
theorem rt_not (ha : PT X a (tT c ft)) : PT X (.UnaryOp .Not a pos) (tT c (tNotF ft)) := by
  refine PT.weak (pt_not ha) ?_
  rintro σ H Q ⟨G, Γ, he, q⟩
  refine tTT he q fun b G1 H1 e1 g1 he1 q1 => ?_
  exact q1 G1 H1 (.refl he1.gh)
def tAndF (f g : FT) : FT := fun Γ => (f Γ).bind fun x => if x = true then g Γ else .ok false
def tOrF (f g : FT) : FT := fun Γ => (f Γ).bind fun x => if x = true then .ok true else g Γ
theorem rw_and1 (ha : PT X a (tT c ft)) : PW X (.BoolOp .And [a] pos) (tT c ft) := pw_and1 ha
theorem rw_or1 (ha : PT X a (tT c ft)) : PW X (.BoolOp .Or [a] pos) (tT c ft) := pw_or1 ha
theorem PW.weak {e : Expr} {t t' : TT} (h : PW X e t) (w : ∀ σ H Q, t' σ H Q → t σ H Q) : PW X e t' := ⟨fun wh pins s σ H Q I q => h.run wh pins s σ H Q I (w _ _ _ q)⟩
theorem rw_and {rest : List Expr} (ha : PT X a (tT c ft)) (hb : PW X (.BoolOp .And (b :: rest) pos) (tT c gt)) : PW X (.BoolOp .And (a :: b :: rest) pos) (tT c (tAndF ft gt)) := by
  refine PW.weak (pw_and ha hb) ?_
  rintro σ H Q ⟨G, Γ, he, q⟩
  refine tTT he q fun k G1 H1 e1 g1 he1 q1 => ?_
  cases k with
  | true => rw [if_pos rfl]; exact ⟨G1, Γ, he1, q1⟩
  | false => rw [if_neg Bool.false_ne_true]; exact q1 G1 H1 (.refl he1.gh)
theorem rw_or {rest : List Expr} (ha : PT X a (tT c ft)) (hb : PW X (.BoolOp .Or (b :: rest) pos) (tT c gt)) : PW X (.BoolOp .Or (a :: b :: rest) pos) (tT c (tOrF ft gt)) := by
  refine PW.weak (pw_or ha hb) ?_
  rintro σ H Q ⟨G, Γ, he, q⟩
  refine tTT he q fun k G1 H1 e1 g1 he1 q1 => ?_
  cases k with
  | true => rw [if_pos rfl]; exact q1 G1 H1 (.refl he1.gh)
  | false => rw [if_neg Bool.false_ne_true]; exact ⟨G1, Γ, he1, q1⟩
def eAnd (f g : FE) : FE := fun Γ => (f Γ).bind fun x => match x with
  | .sh (.b true) => g Γ | .sh (.b false) => .ok (.sh (.b false)) | _ => .bad
def eOr (f g : FE) : FE := fun Γ => (f Γ).bind fun x => match x with
  | .sh (.b true) => .ok (.sh (.b true)) | .sh (.b false) => g Γ | _ => .bad
theorem re_one {op} (h : PE X a (tE c f)) : PE X (.BoolOp op [a] pos) (tE c f) := pe_one h
theorem re_and {rest : List Expr} (ha : PE X a (tE c f)) (hb : PE X (.BoolOp .And (b :: rest) pos) (tE c g)) : PE X (.BoolOp .And (a :: b :: rest) pos) (tE c (eAnd f g)) := by
  refine PE.weak (pe_and ha hb) ?_
  rintro σ H Q ⟨G, Γ, he, q⟩
  refine eE he q fun rx x G1 H1 e1 g1 v1 fr1 he1 q1 => ?_
  split at q1
  · cases (Rep.bl_inv v1); refine ⟨true, rfl, ?_⟩; rw [if_pos rfl]; exact ⟨G1, Γ, he1, q1⟩
  · cases (Rep.bl_inv v1); refine ⟨false, rfl, ?_⟩; rw [if_neg Bool.false_ne_true]; exact post_sh he1.gh q1 (.b _)
  · exact q1.elim
theorem re_or {rest : List Expr} (ha : PE X a (tE c f)) (hb : PE X (.BoolOp .Or (b :: rest) pos) (tE c g)) : PE X (.BoolOp .Or (a :: b :: rest) pos) (tE c (eOr f g)) := by
  refine PE.weak (pe_or ha hb) ?_
  rintro σ H Q ⟨G, Γ, he, q⟩
  refine eE he q fun rx x G1 H1 e1 g1 v1 fr1 he1 q1 => ?_
  split at q1
  · cases (Rep.bl_inv v1); refine ⟨true, rfl, ?_⟩; rw [if_pos rfl]; exact post_sh he1.gh q1 (.b _)
  · cases (Rep.bl_inv v1); refine ⟨false, rfl, ?_⟩; rw [if_neg Bool.false_ne_true]; exact ⟨G1, Γ, he1, q1⟩
  · exact q1.elim
def eNot (f : FE) : FE := fun Γ => (f Γ).bind fun x => match x with
  | .sh (.b k) => .ok (.sh (.b (!k))) | _ => .bad
theorem re_not (ha : PE X a (tE c f)) : PE X (.UnaryOp .Not a pos) (tE c (eNot f)) := by
  refine PE.weak (pe_not ha) ?_
  rintro σ H Q ⟨G, Γ, he, q⟩
  refine eE he q fun rx x G1 H1 e1 g1 v1 fr1 he1 q1 => ?_
  split at q1
  · cases (Rep.bl_inv v1); exact ⟨_, rfl, post_sh he1.gh q1 (.b _)⟩
  · exact q1.elim
def eIf (t : FT) (f g : FE) : FE := fun Γ => (t Γ).bind fun x => if x = true then f Γ else g Γ
theorem re_if {t : Expr} (hc : PT X t (tT c ft)) (ha : PE X a (tE c f)) (hb : PE X b (tE c g)) : PE X (.IfExp t a b pos) (tE c (eIf ft f g)) := by
  refine PE.weak (pe_ifExp hc ha hb) ?_
  rintro σ H Q ⟨G, Γ, he, q⟩
  refine tTE he q fun k G1 H1 e1 g1 he1 q1 => ?_
  cases k with
  | true => rw [if_pos rfl] at q1 ⊢; exact ⟨G1, Γ, he1, q1⟩
  | false => rw [if_neg Bool.false_ne_true] at q1 ⊢; exact ⟨G1, Γ, he1, q1⟩
end
end Ly
end

section
set_option maxRecDepth 100000
namespace Ly
open PySem PySem.Spec L2
open PyProof.Rows hiding St
variable [Tb]

theorem tE_bind0 {c : LC} {f : FE} {σ : St} {H : Hp} {G : Hp} {Γ : Env'} (he : EnvOk c G H σ Γ) {β : Type} {k : Rv → Re β} {R : VK}
    {P : Re β → Prop} (hb : P .bad → False) (hx : ∀ x, P (.ex x) → ∀ G' H', Gr G H G' H' → ExAt c (fun C d H' => c.W C d σ H') x G' H') (h : P ((f Γ).bind k))
    (hk : ∀ r v G' H', f Γ = .ok r → Gr G H G' H' → RV c G' H' v r → Fresh H v r → P (k r) → R v H') : tE c f σ H R := by
  refine ⟨G, Γ, he, ?_⟩
  cases e : f Γ with
  | bad => rw [e] at h; exact (hb h).elim
  | ex x => rw [e] at h; exact hx _ h
  | ok r =>
    intro v G' H' g rv fr
    rw [e] at h
    exact hk r v G' H' e g rv fr h
def share : Rv → Re D
  | .sh d => .ok d | .fr d => .ok d | .bo _ => .bad
theorem RV.share {c : LC} {G0 H0 G H : Hp} {v : V} {r : Rv} {d : D} (g : Gr G0 H0 G H) (h : RV c G H v r) (fr : Fresh H0 v r) (e : share r = .ok d) : ∃ G', Gr G0 H0 G' H ∧ Same G G' ∧ Rep c.K G' v d := by
  cases r with
  | sh d' => cases e; exact ⟨G, g, Same.refl _, h⟩
  | fr d' =>
    cases e
    obtain ⟨p, rfl, _, gp, o⟩ := h
    obtain ⟨p', e1, hp⟩ := fr
    cases e1
    obtain ⟨u, hu, pl, rp⟩ := o.rep gp
    exact ⟨_, g.freeze hp gp hu pl.1, fun b w q => by rw [upd_ne (ne_of_none q gp)]; exact q, rp⟩
  | bo d' => cases e
section
variable {X : Cx} {c : LC} {a b e : Expr} {es : List Expr} {f g h : FE} {fa : FA} {pos : Pos}
def aNil : FA := fun _ => .ok []
def aCons (f : FE) (g : FA) : FA := fun Γ => (f Γ).bind fun r => (share r).bind fun d => (g Γ).bind fun ds => .ok (d :: ds)
theorem ra_nil : PA X [] (tA c aNil) := PA.weak pa_nil fun σ H Q ⟨G, Γ, he, q⟩ => q [] G H (.refl he.gh) .nil
theorem ra_cons (ha : PE X e (tE c f)) (hr : PA X es (tA c fa)) (hs : starEach (e :: es) X.env = (false, eval e X.env) :: starEach es X.env := by rfl) : PA X (e :: es) (tA c (aCons f fa)) := by
  refine PA.weak (pa_cons ha hr hs) ?_
  rintro σ H Q ⟨G, Γ, he, q⟩
  refine tE_bind0 (P := fun r => PostA c r σ G H Q) he (fun h => h) (fun x h => h) q fun r v G1 H1 _ g1 v1 fr1 q1 => ?_
  cases e1 : share r with
  | bad => rw [e1] at q1; exact q1.elim
  | ex x => rw [e1] at q1; cases r <;> cases e1
  | ok d =>
    rw [e1] at q1
    obtain ⟨G2, g2, s2, rp⟩ := v1.share g1 fr1 e1
    refine tAA (he.mono g2) (PostA.later g2 q1) fun ds vs G3 H3 _ g3 rs he3 q3 => ?_
    exact q3 _ G3 H3 (.refl he3.gh) (.cons (rp.mono g3.gg) rs)

def eLst (f : FA) : FE := fun Γ => (f Γ).bind fun ds => if ds.length ≤ 16777216 then .ok (.fr (.l ds)) else .bad
theorem re_lst (ha : PA X es (tA c fa)) : PE X (.List es pos) (tE c (eLst fa)) := by
  refine PE.weak (pe_lst ha) ?_
  rintro σ H Q ⟨G, Γ, he, q⟩
  refine tAE he q fun ds vs G1 H1 _ g1 rs he1 q1 => ?_
  split at q1
  · exact ⟨by rw [rs.length, sizeLine_eq]; assumption, post_lst he1.bh he1.gh q1 rs⟩
  · exact q1.elim
def eTup (f : FA) : FE := fun Γ => (f Γ).bind fun ds => if ds.length ≤ 16777216 then .ok (.sh (.t ds)) else .bad
theorem re_tup {x1} (ha : PA X es (tA c fa)) : PE X (.Tuple es x1 pos) (tE c (eTup fa)) := by
  refine PE.weak (pe_tup ha) ?_
  rintro σ H Q ⟨G, Γ, he, q⟩
  refine tAE he q fun ds vs G1 H1 _ g1 rs he1 q1 => ?_
  split at q1
  · exact ⟨by rw [rs.length, sizeLine_eq]; assumption, post_tup he1.gh q1 rs⟩
  · exact q1.elim
def eDk0 : FE := fun _ => .ok (.fr (.dk [] []))
def eDt0 : FE := fun _ => .ok (.fr (.dt [] []))
theorem re_dk0 : PE X (.Dict [] [] pos) (tE c eDk0) := PE.weak pe_dnewK fun σ H Q ⟨G, Γ, he, q⟩ => post_dk0 he.bh he.gh q
theorem re_dt0 : PE X (.Dict [] [] pos) (tE c eDt0) := PE.weak pe_dnewT fun σ H Q ⟨G, Γ, he, q⟩ => post_dt0 he.bh he.gh q

def kIx : Rv → Rv → Re Rv := fun x y => match x.d, y.d with
  | .l ds, .i k => match atI ds k with | some d => .ok (.sh d) | none => .bad
  | .z ds, .i k => match atI ds k with | some d => .ok (.sh d) | none => .bad
  | .t ds, .i k => match atI ds k with | some d => .ok (.sh d) | none => .bad
  | .zt ds, .i k => match atI ds k with | some d => .ok (.sh d) | none => .bad
  | .s x, .i k => if x.length ≤ 16777216 then (match atI x.cps.toList k with | some ch => .ok (.sh (.s ⟨#[ch]⟩)) | none => .bad) else .bad
  | _, _ => .bad
theorem Reps.atI {K : PySem.W.Frag} {G : Hp} {xs : List V} {ds : List D} {k : Int} {d : D} (r : Reps K G xs ds) (h : L2.atI ds k = some d) : ∃ v, L2.atI xs k = some v ∧ Rep K G v d := by
  unfold L2.atI at h ⊢
  rw [r.length]
  cases e : ixN ds.length k with
  | none => rw [e] at h; cases h
  | some j => rw [e] at h; exact r.get' h
theorem ok2_ix : Ok2 c (rIx c.K) kIx := by
  intro σ G H x y rx ry Q gh bh hx hy q
  unfold kIx at q
  split at q
  · rename_i ds k e1 e2
    split at q
    · rename_i d hd
      obtain ⟨p, xs, h1, h2, h3⟩ := hx.lst gh e1
      obtain ⟨v, hv, rv⟩ := h3.atI hd
      exact .inl ⟨p, xs, k, v, h1, hy.int e2, .of h2, hv, post_sh gh q rv⟩
    · exact q.elim
  · rename_i ds k e1 e2
    split at q
    · rename_i d hd
      obtain ⟨p, xs, h1, h2, h3⟩ := hx.zl e1
      obtain ⟨v, hv, rv⟩ := h3.atI hd
      exact .inl ⟨p, xs, k, v, h1, hy.int e2, gh.seq h2, hv, post_sh gh q rv⟩
    · exact q.elim
  · rename_i ds k e1 e2
    split at q
    · rename_i d hd
      obtain ⟨p, xs, h1, h2, h3⟩ := hx.tup e1
      obtain ⟨v, hv, rv⟩ := h3.atI hd
      exact .inr (.inl ⟨p, xs, k, v, h1, hy.int e2, SqT.of (gh _ _ h2), hv, post_sh gh q rv⟩)
    · exact q.elim
  · rename_i ds k e1 e2
    split at q
    · rename_i d hd
      obtain ⟨p, xs, h1, h2, h3⟩ := hx.ztup e1
      obtain ⟨v, hv, rv⟩ := h3.atI hd
      exact .inr (.inl ⟨p, xs, k, v, h1, hy.int e2, Same.tup gh h2, hv, post_sh gh q rv⟩)
    · exact q.elim
  · rename_i z k e1 e2
    split at q
    · split at q
      · rename_i hz _ ch hd
        exact .inr (.inr ⟨z, k, ch, hx.str e1, hy.int e2, by rw [sizeLine_eq]; exact hz, hd, post_sh gh q (.s _)⟩)
      · exact q.elim
    · exact q.elim
  · exact q.elim
theorem re_ix (cy : Cy X c) (ha : PE X a (tE c f)) (hb : PE X b (tE c g)) (hs : PlainIx b := by intro _ _; rfl) : PE X (.Subscript a b pos) (tE c (e2 kIx f g)) := by
  have hr : IxR X (rIx c.K) := by rw [← cy.K]; exact ix_seq
  exact PE.weak (pe_ix hr ha hb hs) (tE_2 ok2_ix)

abbrev FO := Env' → Re (Option Int)
def oNo : FO := fun _ => .ok none
def oIs (f : FE) : FO := fun Γ => (f Γ).bind fun r => match r with | .sh (.i k) => .ok (some k) | _ => .bad
def PostO (c : LC) (re : Re (Option Int)) (σ : St) (G H : Hp) (Q : Option Int → Hp → Prop) : Prop := match re with
  | .ok r => ∀ G' H', Gr G H G' H' → Q r H'
  | .ex e => ∀ G' H', Gr G H G' H' → ExAt c (fun C d H' => c.W C d σ H') e G' H'
  | .bad => False
def tO (c : LC) (f : FO) : TO := fun σ H Q => ∃ G Γ, EnvOk c G H σ Γ ∧ PostO c (f Γ) σ G H Q
theorem PO.weak {X : Cx} {e : Option Expr} {t t' : TO} (h : PO X e t) (w : ∀ σ H Q, t' σ H Q → t σ H Q) : PO X e t' := ⟨fun pins s σ H Q I q => h.run pins s σ H Q I (w _ _ _ q)⟩
theorem PostO.later {re : Re (Option Int)} {σ : St} {G H G1 H1 : Hp} {Q : Option Int → Hp → Prop} (g : Gr G H G1 H1) (h : PostO c re σ G H Q) : PostO c re σ G1 H1 Q := by
  cases re with
  | bad => exact h
  | ex x => exact Post.ex_later g h
  | ok r => exact fun G2 H2 g2 => h G2 H2 (g.trans g2)
theorem ro_no : PO X none (tO c oNo) := PO.weak po_none fun σ H Q ⟨G, Γ, he, q⟩ => q G H (.refl he.gh)
theorem ro_is (ha : PE X e (tE c f)) : PO X (some e) (tO c (oIs f)) := by
  refine PO.weak (po_some ha) ?_
  rintro σ H Q ⟨G, Γ, he, q⟩
  refine tE_bind (P := fun r G H => PostO c r σ G H Q) he (fun _ _ h => h) (fun _ _ _ h => h) (fun _ _ _ _ _ g h => h.later g) q fun r v G1 H1 _ g1 v1 _ he1 q1 => ?_
  split at q1
  · exact ⟨_, Rep.int_inv v1, q1 G1 H1 (.refl he1.gh)⟩
  · exact q1.elim
theorem tO_bind {f : FO} {σ : St} {H : Hp} {G : Hp} {Γ : Env'} {Q : VK} (he : EnvOk c G H σ Γ) {k : Option Int → Re Rv} {R : Option Int → Hp → Prop}
    (h : Post c ((f Γ).bind k) σ G H Q) (hk : ∀ r G' H', Gr G H G' H' → EnvOk c G' H' σ Γ → Post c (k r) σ G' H' Q → R r H') : tO c f σ H R := by
  refine ⟨G, Γ, he, ?_⟩
  cases e : f Γ with
  | bad => rw [e] at h; exact h.elim
  | ex x => rw [e] at h; exact h
  | ok r =>
    intro G' H' g
    rw [e] at h
    exact hk r G' H' g (he.mono g) (Post.later g h)
def cut {α : Type} (xs : List α) (lo hi : Option Int) : List α := (xs.drop (HT.sIx xs.length 0 lo)).take (HT.sIx xs.length xs.length hi - HT.sIx xs.length 0 lo)
def kSl (r : Rv) (lo hi : Option Int) : Re Rv := match r.d with
  | .l ds => .ok (.fr (.l (cut ds lo hi)))
  | .z ds => .ok (.fr (.l (cut ds lo hi)))
  | .t ds => .ok (.sh (.t (cut ds lo hi)))
  | .s x => if x.length ≤ 16777216 then .ok (.sh (.s (cutS x lo hi))) else .bad
  | _ => .bad
def eSl (f : FE) (lo hi : FO) : FE := fun Γ => (f Γ).bind fun r => (lo Γ).bind fun l => (hi Γ).bind fun h => kSl r l h
theorem Reps.cut {K : PySem.W.Frag} {G : Hp} {xs : List V} {ds : List D} (r : Reps K G xs ds) (lo hi : Option Int) : Reps K G (cutV xs lo hi) (cut ds lo hi) := by
  unfold cutV Ly.cut
  rw [r.length]
  exact (r.drop _).take _
theorem cut_whole {α : Type} {xs : List α} {lo hi : Option Int} (h : HT.sIx xs.length 0 lo = 0 ∧ HT.sIx xs.length xs.length hi = xs.length) : cut xs lo hi = xs := by
  unfold cut
  rw [h.1, h.2]
  simp
theorem re_sl (cy : Cy X c) {lo hi : Option Expr} {fl fh : FO} {p2 : Pos} (ha : PE X e (tE c f)) (hl : PO X lo (tO c fl)) (hu : PO X hi (tO c fh)) : PE X (.Subscript e (.Slice lo hi none p2) pos) (tE c (eSl f fl fh)) := by
  have hr : SlR X (fun x lo hi H Q => (rSlL c.K x lo hi H Q ∨ rSlS x lo hi H Q) ∨ rSlA c.K x lo hi H Q) := by
    rw [← cy.K]; exact SlR.or (SlR.or sl_list sl_str) sl_tupA
  refine PE.weak (pe_slice hr ha hl hu) ?_
  rintro σ H Q ⟨G, Γ, he, q⟩
  refine eE he q fun r v G1 H1 _ g1 v1 _ he1 q1 => ?_
  refine tO_bind he1 q1 fun l G2 H2 g2 he2 q2 => ?_
  refine tO_bind he2 q2 fun u G3 H3 g3 he3 q3 => ?_
  have v3 := (v1.mono g2).mono g3
  unfold kSl at q3
  split at q3
  · rename_i ds ed
    obtain ⟨p, xs, e1, e2, e3⟩ := v3.lst he3.gh ed
    exact .inl (.inl ⟨p, xs, e1, .of e2, post_lst he3.bh he3.gh q3 (e3.cut l u)⟩)
  · rename_i ds ed
    obtain ⟨p, xs, e1, e2, e3⟩ := v3.zl ed
    exact .inl (.inl ⟨p, xs, e1, he3.gh.seq e2, post_lst he3.bh he3.gh q3 (e3.cut l u)⟩)
  · rename_i ds ed
    obtain ⟨p, xs, e1, e2, e3⟩ := v3.tup ed
    refine .inr ⟨p, xs, e1, SqT.of (he3.gh _ _ e2), fun hw => ?_, fun _ => post_tup he3.gh q3 (e3.cut l u)⟩
    refine post_sh he3.gh q3 (.t e2 ?_)
    have hw' := hw
    rw [e3.length] at hw'
    rw [cut_whole hw']
    exact e3
  · rename_i z ed
    split at q3
    · exact .inl (.inr ⟨z, v3.str ed, by rw [sizeLine_eq]; assumption, post_sh he3.gh q3 (.s _)⟩)
    · exact q3.elim
  · exact q3.elim
def kRev : Rv → Re Rv := fun x => match x.d with
  | .l ds => .ok (.fr (.l ds.reverse))
  | .z ds => .ok (.fr (.l ds.reverse))
  | _ => .bad
theorem re_rev (cy : Cy X c) {k : Nat} {p1 p2 p3 : Pos} (ha : PE X e (tE c f)) : PE X (.Subscript e (.Slice none none (some (.UnaryOp .USub (.Constant (.int 1) k p1) p2)) p3) pos) (tE c (e1 kRev f)) := by
  refine PE.weak (pe_revL ha) ?_
  rintro σ H Q ⟨G, Γ, he, q⟩
  refine eE he q fun r v G1 H1 _ g1 v1 _ he1 q1 => ?_
  rw [cy.K]
  unfold kRev at q1
  split at q1
  · rename_i ds ed
    obtain ⟨p, xs, e1, e2, e3⟩ := v1.lst he1.gh ed
    exact ⟨p, xs, e1, .of e2, post_lst he1.bh he1.gh q1 e3.reverse⟩
  · rename_i ds ed
    obtain ⟨p, xs, e1, e2, e3⟩ := v1.zl ed
    exact ⟨p, xs, e1, he1.gh.seq e2, post_lst he1.bh he1.gh q1 e3.reverse⟩
  · exact q1.elim

def OkC1 (c : LC) (r : List V → Hp → VK → Prop) (k : Rv → Re Rv) : Prop := ∀ (σ : St) (G H : Hp) (x : V) (rx : Rv) (Q : VK), Same G H → Kept c.B H → RV c G H x rx → Post c (k rx) σ G H Q → r [x] H Q
def OkC2 (c : LC) (r : List V → Hp → VK → Prop) (k : Rv → Rv → Re Rv) : Prop := ∀ (σ : St) (G H : Hp) (x y : V) (rx ry : Rv) (Q : VK), Same G H → Kept c.B H → RV c G H x rx → RV c G H y ry → Post c (k rx ry) σ G H Q → r [x, y] H Q
theorem tE_c1 {k : Rv → Re Rv} {r : List V → Hp → VK → Prop} (hk : OkC1 c r k) : ∀ σ H Q, tE c (e1 k f) σ H Q → tCB r (tCons (tE c f) tNil) σ H Q := by
  rintro σ H Q ⟨G, Γ, he, q⟩
  exact eE he q fun rx x G1 H1 _ g1 v1 fr1 he1 q1 => hk σ G1 H1 x rx Q he1.gh he1.bh v1 q1
theorem tE_c2 {k : Rv → Rv → Re Rv} {r : List V → Hp → VK → Prop} (hk : OkC2 c r k) : ∀ σ H Q, tE c (e2 k f g) σ H Q → tCB r (tCons (tE c f) (tCons (tE c g) tNil)) σ H Q := by
  rintro σ H Q ⟨G, Γ, he, q⟩
  refine eE he q fun rx x G1 H1 e1 g1 v1 fr1 he1 q1 => ?_
  refine eE he1 q1 fun ry y G2 H2 e2 g2 v2 fr2 he2 q2 => ?_
  exact hk σ G2 H2 x y rx ry Q he2.gh he2.bh (v1.mono g2) v2 q2
theorem re_b1 {x : Str} {p : Pos} {id : String} {r : List V → Hp → VK → Prop} {k : Rv → Re Rv} (hc : CallR X (.builtin id) r) (hk : OkC1 c r k) (hg : Gl X x) (hm : X.mg x = none) (hv : bootBuiltins x = some (.builtin id)) (ha : PE X a (tE c f))
    (hn : x ≠ "__name__" := by decide) (hdb : (x == ("__debug__" : Str)) = false := by decide) (hs : starEach [a] X.env = [(false, eval a X.env)] := by rfl) : PE X (.Call (.Name x p) [a] [] pos) (tE c (e1 k f)) :=
  PE.weak (pe_callB hc hg hm hv (pa_cons ha pa_nil hs) hn hdb hs) (tE_c1 hk)
theorem re_t1 {x : Str} {p : Pos} {id : String} {r : List V → Hp → VK → Prop} {k : Rv → Re Rv} (hc : CallR X (.type id) r) (hk : OkC1 c r k) (hg : Gl X x) (hm : X.mg x = none) (hv : bootBuiltins x = some (.type id)) (ha : PE X a (tE c f))
    (hn : x ≠ "__name__" := by decide) (hdb : (x == ("__debug__" : Str)) = false := by decide) (hs : starEach [a] X.env = [(false, eval a X.env)] := by rfl) : PE X (.Call (.Name x p) [a] [] pos) (tE c (e1 k f)) :=
  PE.weak (pe_callTy hc hg hm hv (pa_cons ha pa_nil hs) hn hdb hs) (tE_c1 hk)
theorem re_b2 {x : Str} {p : Pos} {id : String} {r : List V → Hp → VK → Prop} {k : Rv → Rv → Re Rv} (hc : CallR X (.builtin id) r) (hk : OkC2 c r k) (hg : Gl X x) (hm : X.mg x = none) (hv : bootBuiltins x = some (.builtin id)) (ha : PE X a (tE c f)) (hb : PE X b (tE c g))
    (hn : x ≠ "__name__" := by decide) (hdb : (x == ("__debug__" : Str)) = false := by decide) (hs : starEach [a, b] X.env = (false, eval a X.env) :: starEach [b] X.env := by rfl) (hs2 : starEach [b] X.env = [(false, eval b X.env)] := by rfl)
    (hpl : (backTo pos (starEach [b] X.env)).any (·.1) = false := by rfl) : PE X (.Call (.Name x p) [a, b] [] pos) (tE c (e2 k f g)) :=
  PE.weak (pe_callB hc hg hm hv (pa_cons ha (pa_cons hb pa_nil hs2) hs) hn hdb hs hpl) (tE_c2 hk)
def kLen : Rv → Re Rv := fun x => match x.d with
  | .l ds => oki ds.length | .z ds => oki ds.length | .t ds => oki ds.length
  | .s y => if y.length ≤ 16777216 then oki y.length else .bad
  | _ => .bad
theorem okc_len : OkC1 c (fun xs H Q => ∃ x n, xs = [x] ∧ LenV c.K x H n ∧ Q (.int n) H) kLen := by
  intro σ G H x rx Q gh bh hx q
  unfold kLen at q
  split at q
  · rename_i ds e
    obtain ⟨p, xs, e1, e2, e3⟩ := hx.lst gh e
    subst e1
    exact ⟨_, ds.length, rfl, .inl ⟨xs, .of e2, e3.length.symm⟩, post_sh gh q (.i _)⟩
  · rename_i ds e
    obtain ⟨p, xs, e1, e2, e3⟩ := hx.zl e
    subst e1
    exact ⟨_, ds.length, rfl, .inl ⟨xs, gh.seq e2, e3.length.symm⟩, post_sh gh q (.i _)⟩
  · rename_i ds e
    obtain ⟨p, xs, e1, e2, e3⟩ := hx.tup e
    subst e1
    exact ⟨_, ds.length, rfl, .inr ⟨xs, SqT.of (gh _ _ e2), e3.length.symm⟩, post_sh gh q (.i _)⟩
  · rename_i y e
    split at q
    · cases hx.str e
      exact ⟨_, y.length, rfl, ⟨by rw [sizeLine_eq]; assumption, rfl⟩, post_sh gh q (.i _)⟩
    · exact q.elim
  · exact q.elim
theorem re_len (cy : Cy X c) {p : Pos} (hg : Gl X "len") (hm : X.mg "len" = none) (ha : PE X a (tE c f)) (hs : starEach [a] X.env = [(false, eval a X.env)] := by rfl) : PE X (.Call (.Name "len" p) [a] [] pos) (tE c (e1 kLen f)) :=
  re_b1 (r := fun xs H Q => ∃ x n, xs = [x] ∧ LenV c.K x H n ∧ Q (.int n) H) (by rw [← cy.K]; exact call_len) okc_len hg hm boot_len ha (by decide) (by decide) hs
def kAbs : Rv → Re Rv := fun x => match x.d with | .i p => oki (if p < 0 then -p else p) | _ => .bad
theorem re_abs {p : Pos} (hg : Gl X "abs") (hm : X.mg "abs" = none) (ha : PE X a (tE c f)) (hs : starEach [a] X.env = [(false, eval a X.env)] := by rfl) : PE X (.Call (.Name "abs" p) [a] [] pos) (tE c (e1 kAbs f)) := by
  refine re_b1 call_abs ?_ hg hm (by decide +kernel) ha (by decide) (by decide) hs
  intro σ G H x rx Q gh bh hx q
  unfold kAbs at q
  split at q
  · rename_i k e
    exact ⟨k, by rw [hx.int e], post_sh gh q (.i _)⟩
  · exact q.elim
def kMax2 : Rv → Rv → Re Rv := kI fun i j => oki (if j > i then j else i)
def kMin2 : Rv → Rv → Re Rv := kI fun i j => oki (if j < i then j else i)
theorem re_max2 (cy : Cy X c) {p : Pos} (hg : Gl X "max") (hm : X.mg "max" = none) (ha : PE X a (tE c f)) (hb : PE X b (tE c g)) (hs : starEach [a, b] X.env = (false, eval a X.env) :: starEach [b] X.env := by rfl) (hs2 : starEach [b] X.env = [(false, eval b X.env)] := by rfl)
    (hpl : (backTo pos (starEach [b] X.env)).any (·.1) = false := by rfl) : PE X (.Call (.Name "max" p) [a, b] [] pos) (tE c (e2 kMax2 f g)) := by
  refine re_b2 (call_max2 cy.calm) ?_ hg hm (by decide +kernel) ha hb (by decide) (by decide) hs hs2 hpl
  intro σ G H x y rx ry Q gh bh hx hy q
  unfold kMax2 kI at q
  split at q
  · rename_i i j e e'
    exact ⟨i, j, by rw [hx.int e, hy.int e'], post_sh gh q (.i _)⟩
  · exact q.elim
theorem re_min2 (cy : Cy X c) {p : Pos} (hg : Gl X "min") (hm : X.mg "min" = none) (ha : PE X a (tE c f)) (hb : PE X b (tE c g)) (hs : starEach [a, b] X.env = (false, eval a X.env) :: starEach [b] X.env := by rfl) (hs2 : starEach [b] X.env = [(false, eval b X.env)] := by rfl)
    (hpl : (backTo pos (starEach [b] X.env)).any (·.1) = false := by rfl) : PE X (.Call (.Name "min" p) [a, b] [] pos) (tE c (e2 kMin2 f g)) := by
  refine re_b2 (call_min2 cy.calm) ?_ hg hm (by decide +kernel) ha hb (by decide) (by decide) hs hs2 hpl
  intro σ G H x y rx ry Q gh bh hx hy q
  unfold kMin2 kI at q
  split at q
  · rename_i i j e e'
    exact ⟨i, j, by rw [hx.int e, hy.int e'], post_sh gh q (.i _)⟩
  · exact q.elim
def kInt : Rv → Re Rv := fun x => match x.d with | .i k => oki k | .b k => oki (if k then 1 else 0) | _ => .bad
theorem re_toInt {p : Pos} (hg : Gl X "int") (hm : X.mg "int" = none) (ha : PE X a (tE c f)) (hs : starEach [a] X.env = [(false, eval a X.env)] := by rfl) : PE X (.Call (.Name "int" p) [a] [] pos) (tE c (e1 kInt f)) := by
  refine re_t1 call_int1 ?_ hg hm (by decide +kernel) ha (by decide) (by decide) hs
  intro σ G H x rx Q gh bh hx q
  unfold kInt at q
  split at q
  · rename_i k e
    exact .inl ⟨k, by rw [hx.int e], post_sh gh q (.i _)⟩
  · rename_i k e
    exact .inr ⟨k, by rw [hx.bl e], post_sh gh q (.i _)⟩
  · exact q.elim
def kList : Rv → Re Rv := fun x => match x.d with
  | .l ds => .ok (.fr (.l ds)) | .z ds => .ok (.fr (.l ds)) | .t ds => .ok (.fr (.l ds)) | _ => .bad
theorem re_list (cy : Cy X c) {p : Pos} (hg : Gl X "list") (hm : X.mg "list" = none) (ha : PE X a (tE c f)) (hs : starEach [a] X.env = [(false, eval a X.env)] := by rfl) : PE X (.Call (.Name "list" p) [a] [] pos) (tE c (e1 kList f)) := by
  refine re_t1 (r := fun xs H Q => ∃ p ys, xs = [.ref p] ∧ (SqL c.K H p ys ∨ SqT c.K H p ys) ∧ ∀ l, H l = none → Q (.ref l) (upd H l (.lst ys))) (by rw [← cy.K]; exact call_list_of) ?_ hg hm (by decide +kernel) ha (by decide) (by decide) hs
  intro σ G H x rx Q gh bh hx q
  unfold kList at q
  split at q
  · rename_i ds e
    obtain ⟨p, xs, e1, e2, e3⟩ := hx.lst gh e
    exact ⟨p, xs, by rw [e1], .inl (.of e2), post_lst bh gh q e3⟩
  · rename_i ds e
    obtain ⟨p, xs, e1, e2, e3⟩ := hx.zl e
    exact ⟨p, xs, by rw [e1], .inl (gh.seq e2), post_lst bh gh q e3⟩
  · rename_i ds e
    obtain ⟨p, xs, e1, e2, e3⟩ := hx.tup e
    exact ⟨p, xs, by rw [e1], .inr (SqT.of (gh _ _ e2)), post_lst bh gh q e3⟩
  · exact q.elim
def kTuple : Rv → Re Rv := fun x => match x.d with
  | .l ds => .ok (.sh (.t ds)) | .z ds => .ok (.sh (.t ds)) | .t ds => .ok (.sh (.t ds)) | _ => .bad
theorem re_tuple (cy : Cy X c) {p : Pos} (hg : Gl X "tuple") (hm : X.mg "tuple" = none) (ha : PE X a (tE c f)) (hs : starEach [a] X.env = [(false, eval a X.env)] := by rfl) : PE X (.Call (.Name "tuple" p) [a] [] pos) (tE c (e1 kTuple f)) := by
  refine re_t1 (r := fun xs H Q => ∃ p ys, xs = [.ref p] ∧ ((SqL c.K H p ys ∧ ∀ l, H l = none → Q (.ref l) (upd H l (.tup ys))) ∨ (SqT c.K H p ys ∧ Q (.ref p) H))) (by rw [← cy.K]; exact call_tuple_of) ?_ hg hm (by decide +kernel) ha (by decide) (by decide) hs
  intro σ G H x rx Q gh bh hx q
  unfold kTuple at q
  split at q
  · rename_i ds e
    obtain ⟨p, xs, e1, e2, e3⟩ := hx.lst gh e
    exact ⟨p, xs, by rw [e1], .inl ⟨.of e2, post_tup gh q e3⟩⟩
  · rename_i ds e
    obtain ⟨p, xs, e1, e2, e3⟩ := hx.zl e
    exact ⟨p, xs, by rw [e1], .inl ⟨gh.seq e2, post_tup gh q e3⟩⟩
  · rename_i ds e
    obtain ⟨p, xs, e1, e2, e3⟩ := hx.tup e
    exact ⟨p, xs, by rw [e1], .inr ⟨SqT.of (gh _ _ e2), by rw [← e1]; refine post_sh gh q ?_; rw [e1]; exact .t e2 e3⟩⟩
  · exact q.elim
def rgD (a b : Int) : List D := (List.range (b - a).toNat).map fun i => D.i (a + (i : Nat))
def rgOk (a b : Int) : Bool := decide (-(2 ^ 62) ≤ a ∧ a < 2 ^ 62 ∧ -(2 ^ 62) ≤ b ∧ b < 2 ^ 62 ∧ (b - a).toNat ≤ 16777216)
def kLr : Int → Int → Re Rv := fun i j => if rgOk i j = true then .ok (.fr (.l (rgD i j))) else .bad
theorem Reps.rg {K : PySem.W.Frag} {G : Hp} (a b : Int) : Reps K G (rgV a b) (rgD a b) := by
  have h : rgV a b = ((List.range (b - a).toNat).map fun i => a + ((i : Nat) : Int)).map V.int := by unfold rgV; rw [List.map_map]; rfl
  have h' : rgD a b = ((List.range (b - a).toNat).map fun i => a + ((i : Nat) : Int)).map D.i := by unfold rgD; rw [List.map_map]; rfl
  rw [h, h']
  exact Reps.ofInts _
theorem rgOk_ok {a b : Int} (h : rgOk a b = true) : RgOk a b := by
  obtain ⟨h1, h2, h3, h4, h5⟩ := of_decide_eq_true h
  exact ⟨h1, h2, h3, h4, by omega⟩
theorem re_listR1 (cy : Cy X c) {p p' : Pos} {ps : Pos} (hl : Gl X "list") (hml : X.mg "list" = none) (hg : Gl X "range") (hm : X.mg "range" = none) (ha : PE X a (tE c f)) (hs : starEach [a] X.env = [(false, eval a X.env)] := by rfl)
    (hs' : starEach [.Call (.Name "range" p') [a] [] ps] X.env = [(false, eval (.Call (.Name "range" p') [a] [] ps) X.env)] := by rfl) :
    PE X (.Call (.Name "list" p) [.Call (.Name "range" p') [a] [] ps] [] pos) (tE c (e1 (fun r => match r.d with | .i j => kLr 0 j | _ => .bad) f)) := by
  refine PE.weak (pe_listRg cy.calm hl hml (prg_1 hg hm ha hs) hs') ?_
  rintro σ H Q ⟨G, Γ, he, q⟩
  refine eE he q fun rx x G1 H1 _ g1 v1 fr1 he1 q1 => ?_
  split at q1
  · rename_i j e
    unfold kLr at q1
    split at q1
    · rename_i hr
      exact ⟨j, v1.int e, rgOk_ok hr, post_lst he1.bh he1.gh q1 (.rg _ _)⟩
    · exact q1.elim
  · exact q1.elim
theorem re_listR2 (cy : Cy X c) {p p' : Pos} {ps : Pos} (hl : Gl X "list") (hml : X.mg "list" = none) (hg : Gl X "range") (hm : X.mg "range" = none) (ha : PE X a (tE c f)) (hb : PE X b (tE c g))
    (hs : starEach [a, b] X.env = (false, eval a X.env) :: starEach [b] X.env := by rfl) (hs2 : starEach [b] X.env = [(false, eval b X.env)] := by rfl) (hpl : (backTo ps (starEach [b] X.env)).any (·.1) = false := by rfl)
    (hs' : starEach [.Call (.Name "range" p') [a, b] [] ps] X.env = [(false, eval (.Call (.Name "range" p') [a, b] [] ps) X.env)] := by rfl) :
    PE X (.Call (.Name "list" p) [.Call (.Name "range" p') [a, b] [] ps] [] pos) (tE c (e2 (kI kLr) f g)) := by
  refine PE.weak (pe_listRg cy.calm hl hml (prg_2 hg hm ha hb hs hs2 hpl) hs') ?_
  rintro σ H Q ⟨G, Γ, he, q⟩
  refine eE he q fun rx x G1 H1 _ g1 v1 fr1 he1 q1 => ?_
  refine eE he1 q1 fun ry y G2 H2 e2 g2 v2 fr2 he2 q2 => ?_
  unfold kI at q2
  split at q2
  · rename_i i j e e'
    unfold kLr at q2
    split at q2
    · rename_i hr
      exact ⟨i, j, (v1.mono g2).int e, v2.int e', rgOk_ok hr, post_lst he2.bh he2.gh q2 (.rg _ _)⟩
    · exact q2.elim
  · exact q2.elim
end
end Ly
end

section
set_option maxRecDepth 100000
namespace Ly
open PySem PySem.Spec L2
open PyProof.Rows hiding St
variable [Tb]

structure Ok0 (G H : Hp) : Prop where
  gh : Same G H
  gt : NoT G
  tb : LamX.Tabs Tb.T H
theorem EnvOk.ok0 {c : LC} {G H : Hp} {σ : St} {Γ : Env'} (e : EnvOk c G H σ Γ) : Ok0 G H := ⟨e.gh, e.gt, e.tb⟩
def spF (K : PySem.W.Frag) (mg : Str → Option Value) (n : Nat) (F : List D → Re Rv) : Sp := fun vs H Q E => ∃ G ds, ds.length = n ∧ Ok0 G H ∧ Reps K G vs ds ∧
  match F ds with
  | .ok (.sh d) => ∀ v G' H', Gr G H G' H' → Rep K G' v d → Q v H'
  | .ok (.fr d) => ∀ p G' H', Gr G H G' H' → Non H p → G' p = none → Own K G' H' p d → Q (.ref p) H'
  | .ex e => ∀ G' H', Gr G H G' H' → ExAt ⟨K, mg, H, G, fun _ _ _ _ => True⟩ E e G' H'
  | _ => False
structure DefOk (P : Program) (w : World) (K : PySem.W.Frag) (mg : Str → Option Value) (base : Heap) (k : Nat) (x : Str) (n : Nat) (F : List D → Re Rv) : Prop where
  ex : ∃ (f : Addr) (fd : FuncData) (ps : List Str), mg x = some (.ref f) ∧ PySem.W.keepIn K (.ref f) = true ∧ Binds K fd ps [] ∧ FnOk P w K mg base (L2N.CX P w) k f fd ps (spF K mg n F)
theorem DefOk.mono {P : Program} {w : World} {K : PySem.W.Frag} {mg : Str → Option Value} {base : Heap} {j k : Nat} {x : Str} {n : Nat} {F : List D → Re Rv} (h : DefOk P w K mg base j x n F) (l : j ≤ k) : DefOk P w K mg base k x n F := by
  obtain ⟨f, fd, ps, h1, h2, h3, h4⟩ := h.ex
  exact ⟨f, fd, ps, h1, h2, h3, h4.mono l⟩
def eCall (n : Nat) (F : List D → Re Rv) (fa : FA) : FE := fun Γ => (fa Γ).bind fun ds => if ds.length = n then (match F ds with
  | .ok (.bo _) => .bad | r => r) else .bad
section
variable {X : Cx} {c : LC} {a b e : Expr} {es : List Expr} {f g h : FE} {fa : FA} {pos : Pos}
theorem re_call (cy : Cy X c) {x : Str} {p : Pos} {k n : Nat} {F : List D → Re Rv} (h : DefOk X.prog X.w X.K X.mg X.base k x n F) (hr : Room k X.A) (hg : Gl X x) (ha : PA X (e :: es) (tA c fa))
    (hdb : (x == ("__debug__" : Str)) = false := by decide) (he : starEach (e :: es) X.env = (false, eval e X.env) :: starEach es X.env := by rfl) (hpl : (backTo pos (starEach es X.env)).any (·.1) = false := by rfl) :
    PE X (.Call (.Name x p) (e :: es) [] pos) (tE c (eCall n F fa)) := by
  obtain ⟨f, fd, ps, h1, h2, h3, h4⟩ := h.ex
  refine PE.weak (pe_callS (E := WE c.W) h4 hr hg h1 h2 h3 (fun σ => L2N.passAt cy.tk σ) ha hdb he hpl) ?_
  rintro σ H Q ⟨G, Γ, he, q⟩
  refine tAE he q fun ds vs G1 H1 _ g1 rs he1 q1 => ?_
  split at q1
  · rename_i hn
    refine ⟨G1, ds, hn, he1.ok0, by rw [cy.K]; exact rs, ?_⟩
    cases eF : F ds with
    | bad => rw [eF] at q1; exact q1
    | ex x => rw [eF] at q1; exact fun G' H' g' C d hC hd => q1 G' H' g' C d (by rw [← cy.mg]; exact hC) (by rw [← cy.K]; exact hd)
    | ok r =>
      rw [eF] at q1
      cases r with
      | sh d => exact fun v G' H' g' rv => q1 v G' H' g' (by rw [cy.K] at rv; exact rv) True.intro
      | fr d => exact fun p' G' H' g' hp gp o => q1 (.ref p') G' H' g' ⟨p', rfl, Kept.non he1.bh hp, gp, by rw [cy.K] at o; exact o⟩ ⟨p', rfl, hp⟩
      | bo d => exact q1
  · exact q1.elim
end

structure EndOk (c : LC) (G H : Hp) : Prop where
  bh : Kept c.B H
  g0 : Same c.G0 G
  gh : Same G H
  gf : ∀ a o, G a = some o → ¬ Non c.B a → c.G0 a = some o
  gt : NoT G
  tb : LamX.Tabs Tb.T H
theorem EnvOk.end {c : LC} {G H : Hp} {σ : St} {Γ : Env'} (e : EnvOk c G H σ Γ) : EndOk c G H := ⟨e.bh, e.g0, e.gh, e.gf, e.gt, e.tb⟩
def PostS (c : LC) (r : Fl) (G : Hp) (D : Ends) : Prop := match r with
  | .nx Γ' => ∀ σ' G' H', EnvOk c G' H' σ' Γ' → Same G G' → D.nx σ' H'
  | .bk Γ' => ∀ σ' G' H', EnvOk c G' H' σ' Γ' → Same G G' → D.bk σ' H'
  | .ct Γ' => ∀ σ' G' H', EnvOk c G' H' σ' Γ' → Same G G' → D.ct σ' H'
  | .rt r => ∀ v G' H', EndOk c G' H' → Same G G' → RV c G' H' v r → (∀ d, r ≠ .bo d) → D.rt v H'
  | .ex e Γ' => ∀ σ' G' H', EnvOk c G' H' σ' Γ' → Same G G' → ExAt c (fun C d H' => c.W C d σ' H') e G' H'
  | .bad => False
def tS (c : LC) (f : FS) : TS := fun D σ H => ∃ G Γ, EnvOk c G H σ Γ ∧ PostS c (f Γ) G D
theorem PostS.later {c : LC} {r : Fl} {G G1 : Hp} {D : Ends} (g : Same G G1) (h : PostS c r G D) : PostS c r G1 D := by
  cases r with
  | nx Γ => exact fun σ' G' H' e s => h σ' G' H' e (g.trans s)
  | bk Γ => exact fun σ' G' H' e s => h σ' G' H' e (g.trans s)
  | ct Γ => exact fun σ' G' H' e s => h σ' G' H' e (g.trans s)
  | rt r => exact fun v G' H' e s => h v G' H' e (g.trans s)
  | ex x Γ => exact fun σ' G' H' e s => h σ' G' H' e (g.trans s)
  | bad => exact h
def Re.fl {α : Type} (r : Re α) (Γ : Env') (k : α → Fl) : Fl := match r with
  | .ok a => k a | .ex e => .ex e Γ | .bad => .bad
theorem sE {c : LC} {f : FE} {σ : St} {H G : Hp} {Γ : Env'} {D : Ends} {k : Rv → Fl} {R : VK} (he : EnvOk c G H σ Γ) (h : PostS c ((f Γ).fl Γ k) G D)
    (hk : ∀ r v G' H', f Γ = .ok r → Gr G H G' H' → RV c G' H' v r → Fresh H v r → EnvOk c G' H' σ Γ → PostS c (k r) G' D → R v H') : tE c f σ H R := by
  refine ⟨G, Γ, he, ?_⟩
  cases e : f Γ with
  | bad => rw [e] at h; exact h
  | ex x => rw [e] at h; exact fun G' H' g => h σ G' H' (he.mono g) g.gg
  | ok r =>
    intro v G' H' g rv fr
    rw [e] at h
    exact hk r v G' H' e g rv fr (he.mono g) (PostS.later g.gg h)
theorem sE0 {c : LC} {f : FE} {σ : St} {H G : Hp} {Γ : Env'} {D : Ends} {k : Rv → Fl} {R : VK} (he : EnvOk c G H σ Γ) (h : PostS c ((f Γ).fl Γ k) G D)
    (hk : ∀ r v G' H', f Γ = .ok r → Gr G H G' H' → RV c G' H' v r → Fresh H v r → PostS c (k r) G D → R v H') : tE c f σ H R := by
  refine ⟨G, Γ, he, ?_⟩
  cases e : f Γ with
  | bad => rw [e] at h; exact h
  | ex x => rw [e] at h; exact fun G' H' g => h σ G' H' (he.mono g) g.gg
  | ok r =>
    intro v G' H' g rv fr
    rw [e] at h
    exact hk r v G' H' e g rv fr h
theorem sT {c : LC} {f : FT} {σ : St} {H G : Hp} {Γ : Env'} {D : Ends} {k : Bool → Fl} {R : Bool → Hp → Prop} (he : EnvOk c G H σ Γ) (h : PostS c ((f Γ).fl Γ k) G D)
    (hk : ∀ r G' H', f Γ = .ok r → Gr G H G' H' → EnvOk c G' H' σ Γ → PostS c (k r) G' D → R r H') : tT c f σ H R := by
  refine ⟨G, Γ, he, ?_⟩
  cases e : f Γ with
  | bad => rw [e] at h; exact h
  | ex x => rw [e] at h; exact fun G' H' g => h σ G' H' (he.mono g) g.gg
  | ok r =>
    intro G' H' g
    rw [e] at h
    exact hk r G' H' e g (he.mono g) (PostS.later g.gg h)
section
variable {X : Cx} {c : LC} {a b e : Expr} {st : Stmt} {rest : List Stmt} {f g h : FE} {ft : FT} {u v : FS} {pos : Pos}
def sNil : FS := fun Γ => .nx Γ
def sSeq (u v : FS) : FS := fun Γ => match u Γ with
  | .nx Γ' => v Γ' | o => o
theorem rs_nil : PSs X [] (tS c sNil) := PSs.weak pss_nil fun D σ H ⟨G, Γ, he, q⟩ => q σ G H he (Same.refl _)
theorem rs_cons (h1 : PS X st (tS c u)) (h2 : PSs X rest (tS c v)) : PSs X (st :: rest) (tS c (sSeq u v)) := by
  refine PSs.weak (pss_cons h1 h2) ?_
  rintro D σ H ⟨G, Γ, he, q⟩
  refine ⟨G, Γ, he, ?_⟩
  unfold sSeq at q
  cases e : u Γ with
  | nx Γ' =>
    rw [e] at q
    exact fun σ' G' H' he' s => ⟨G', Γ', he', PostS.later s q⟩
  | bk Γ' => rw [e] at q; exact q
  | ct Γ' => rw [e] at q; exact q
  | rt r => rw [e] at q; exact q
  | ex x Γ' => rw [e] at q; exact q
  | bad => rw [e] at q; exact q
theorem rs_one (h1 : PS X st (tS c u)) : PSs X [st] (tS c u) := pss_one h1
def sBrk : FS := fun Γ => .bk Γ
def sCnt : FS := fun Γ => .ct Γ
theorem rs_pass : PS X (.Pass pos) (tS c sNil) := PS.weak ps_pass fun D σ H ⟨G, Γ, he, q⟩ => q σ G H he (Same.refl _)
theorem rs_brk : PS X (.Break pos) (tS c sBrk) := PS.weak ps_break fun D σ H ⟨G, Γ, he, q⟩ => q σ G H he (Same.refl _)
theorem rs_cnt : PS X (.Continue pos) (tS c sCnt) := PS.weak ps_continue fun D σ H ⟨G, Γ, he, q⟩ => q σ G H he (Same.refl _)
def sIf (t : FT) (u v : FS) : FS := fun Γ => (t Γ).fl Γ fun b => if b = true then u Γ else v Γ
theorem rs_if {t : Expr} {as bs : List Stmt} (hc : PT X t (tT c ft)) (ha : PSs X as (tS c u)) (hb : PSs X bs (tS c v)) : PS X (.If t as bs pos) (tS c (sIf ft u v)) := by
  refine PS.weak (ps_if hc ha hb) ?_
  rintro D σ H ⟨G, Γ, he, q⟩
  refine sT he q fun k G1 H1 _ g1 he1 q1 => ?_
  cases k with
  | true => rw [if_pos rfl] at q1 ⊢; exact ⟨G1, Γ, he1, q1⟩
  | false => rw [if_neg Bool.false_ne_true] at q1 ⊢; exact ⟨G1, Γ, he1, q1⟩
def sRet (f : FE) : FS := fun Γ => (f Γ).fl Γ fun r => match r with
  | .bo d => .rt (.fr d) | r => .rt r
theorem rs_ret (ha : PE X e (tE c f)) : PS X (.Return (some e) pos) (tS c (sRet f)) := by
  refine PS.weak (ps_ret ha) ?_
  rintro D σ H ⟨G, Γ, he, q⟩
  refine sE he q fun r v G1 H1 _ g1 v1 fr he1 q1 => ?_
  cases r with
  | sh d => exact q1 v G1 H1 he1.end (Same.refl _) v1 (fun _ z => by cases z)
  | fr d => exact q1 v G1 H1 he1.end (Same.refl _) v1 (fun _ z => by cases z)
  | bo d => exact q1 v G1 H1 he1.end (Same.refl _) v1 (fun _ z => by cases z)
def sRetN : FS := fun _ => .rt (.sh .n)
theorem rs_retN : PS X (.Return none pos) (tS c sRetN) := by
  refine PS.weak ps_retN ?_
  rintro D σ H ⟨G, Γ, he, q⟩
  exact q .non G H he.end (Same.refl _) .n (fun _ z => by cases z)
def sEx (f : FE) : FS := fun Γ => (f Γ).fl Γ fun _ => .nx Γ
theorem rs_ex (ha : PE X e (tE c f)) (hs : swapsWith e none pos.line X.env = pure false := by rfl) : PS X (.Expr e pos) (tS c (sEx f)) := by
  refine PS.weak (ps_expr ha hs) ?_
  rintro D σ H ⟨G, Γ, he, q⟩
  exact sE he q fun r v G1 H1 _ g1 v1 fr he1 q1 => q1 σ G1 H1 he1 (Same.refl _)

theorem set_get {α : Type} {l : List (Option α)} {i j : Nat} {x y : α} (h : (l.set i (some x))[j]? = some (some y)) : (j = i ∧ x = y ∧ i < l.length) ∨ (j ≠ i ∧ l[j]? = some (some y)) := by
  by_cases hj : j = i
  · subst hj
    by_cases hl : j < l.length
    · rw [List.getElem?_set_self hl] at h; cases h; exact .inl ⟨rfl, rfl, hl⟩
    · rw [List.getElem?_eq_none (by simpa using hl)] at h; cases h
  · rw [List.getElem?_set_ne (Ne.symm hj)] at h; exact .inr ⟨hj, h⟩
theorem EnvOk.setSh {G H : Hp} {σ : St} {Γ : Env'} (he : EnvOk c G H σ Γ) (i : Nat) {v : V} {d : D} (h : Rep c.K G v d) : EnvOk c G H (σ.set i (some v)) (Γ.set i (some (.sh d))) := by
  refine ⟨he.bh, he.g0, he.gh, he.gf, he.gt, he.tb, by simpa using he.len, fun j r hj => ?_, fun j k x y p hj hk sj sk => ?_⟩
  · rcases set_get hj with ⟨rfl, rfl, hl⟩ | ⟨hne, hj⟩
    · exact ⟨v, List.getElem?_set_self (by rw [he.len]; exact hl), h, fun _ z => by cases z⟩
    · obtain ⟨w, h1, h2, h3⟩ := he.at' j r hj
      exact ⟨w, by rw [List.getElem?_set_ne (Ne.symm hne)]; exact h1, h2, h3⟩
  · rcases set_get hj with ⟨_, z, _⟩ | ⟨nj, hj⟩
    · cases z
    · rcases set_get hk with ⟨_, z, _⟩ | ⟨nk, hk⟩
      · cases z
      · rw [List.getElem?_set_ne (Ne.symm nj)] at sj
        rw [List.getElem?_set_ne (Ne.symm nk)] at sk
        exact he.sep j k x y p hj hk sj sk
theorem EnvOk.setFr {G H : Hp} {σ : St} {Γ : Env'} (he : EnvOk c G H σ Γ) (i : Nat) {p : Addr} {d : D} (bp : Non c.B p) (gp : G p = none) (o : Own c.K G H p d)
    (nw : ∀ (j : Nat) (e : D), Γ[j]? = some (some (Rv.fr e)) → σ[j]? ≠ some (some (V.ref p))) : EnvOk c G H (σ.set i (some (.ref p))) (Γ.set i (some (.fr d))) := by
  refine ⟨he.bh, he.g0, he.gh, he.gf, he.gt, he.tb, by simpa using he.len, fun j r hj => ?_, fun j k x y q hj hk sj sk => ?_⟩
  · rcases set_get hj with ⟨rfl, rfl, hl⟩ | ⟨hne, hj⟩
    · exact ⟨.ref p, List.getElem?_set_self (by rw [he.len]; exact hl), ⟨p, rfl, bp, gp, o⟩, fun _ z => by cases z⟩
    · obtain ⟨w, h1, h2, h3⟩ := he.at' j r hj
      exact ⟨w, by rw [List.getElem?_set_ne (Ne.symm hne)]; exact h1, h2, h3⟩
  · rcases set_get hj with ⟨ej, _, _⟩ | ⟨nj, hj'⟩
    · rcases set_get hk with ⟨ek, _, _⟩ | ⟨nk, hk'⟩
      · rw [ej, ek]
      · subst ej
        rw [List.getElem?_set_ne (Ne.symm nk)] at sk
        rcases set_get sj with ⟨_, z, _⟩ | ⟨z, _⟩
        · cases z; exact absurd sk (nw k y hk')
        · exact absurd rfl z
    · rcases set_get hk with ⟨ek, _, _⟩ | ⟨nk, hk'⟩
      · subst ek
        rw [List.getElem?_set_ne (Ne.symm nj)] at sj
        rcases set_get sk with ⟨_, z, _⟩ | ⟨z, _⟩
        · cases z; exact absurd sj (nw j x hj')
        · exact absurd rfl z
      · rw [List.getElem?_set_ne (Ne.symm nj)] at sj
        rw [List.getElem?_set_ne (Ne.symm nk)] at sk
        exact he.sep j k x y q hj' hk' sj sk
theorem EnvOk.newTo {G H : Hp} {σ : St} {Γ : Env'} (he : EnvOk c G H σ Γ) {p : Addr} (hp : Non H p) : ∀ (j : Nat) (e : D), Γ[j]? = some (some (Rv.fr e)) → σ[j]? ≠ some (some (V.ref p)) := fun j e hj z => by
  obtain ⟨v, h1, h2, _⟩ := he.at' j _ hj
  obtain ⟨q, rfl, _, _, o⟩ := h2
  rw [h1] at z
  cases z
  exact o.live hp
def setR (i : Nat) (Γ : Env') : Rv → Fl
  | .bo _ => .bad | r => .nx (Γ.set i (some r))
def sSet (i : Nat) (f : FE) : FS := fun Γ => (f Γ).fl Γ (setR i Γ)
theorem set_env {G H G1 H1 : Hp} {σ : St} {Γ : Env'} {D : Ends} {i : Nat} {r : Rv} {v : V} (he : EnvOk c G H σ Γ) (g : Gr G H G1 H1) (h : RV c G1 H1 v r) (fr : Fresh H v r) (q : PostS c (setR i Γ r) G D) : D.nx (σ.set i (some v)) H1 := by
  cases r with
  | sh d => exact q _ G1 H1 ((he.mono g).setSh i h) g.gg
  | fr d =>
    obtain ⟨p, rfl, bp, gp, o⟩ := h
    obtain ⟨p', e', hp⟩ := fr
    cases e'
    exact q _ G1 H1 ((he.mono g).setFr i bp gp o (he.newTo hp)) g.gg
  | bo d => exact q.elim
theorem rs_set (cy : Cy X c) {i : Nat} {x : Str} {pos' : Pos} (hi : X.N[i]? = some x) (hx : Loc X.env.scope x) (ha : PE X e (tE c f)) (hs : swapsWith e (some (.Name x pos')) pos.line X.env = pure false := by rfl)
    (hf : X.fn x = true ∨ X.env.scope.names.lookup x = some .local := by first | exact .inl rfl | exact .inr rfl) : PS X (.Assign [.Name x pos'] e pos) (tS c (sSet i f)) := by
  refine PS.weak (ps_set cy.nd hi hx ha hs hf) ?_
  rintro D σ H ⟨G, Γ, he, q⟩
  exact sE0 he q fun r v G1 H1 _ g1 v1 fr q1 => set_env he g1 v1 fr q1
def frz (i : Nat) (Γ : Env') : Env' := match Γ[i]? with
  | some (some (.fr d)) => Γ.set i (some (.sh d))
  | _ => Γ
def sFrz (i : Nat) (u : FS) : FS := fun Γ => u (frz i Γ)
theorem EnvOk.frz {G H : Hp} {σ : St} {Γ : Env'} (he : EnvOk c G H σ Γ) (i : Nat) : ∃ G', Same G G' ∧ EnvOk c G' H σ (Ly.frz i Γ) := by
  unfold Ly.frz
  split
  · rename_i d hi
    obtain ⟨v, h1, ⟨p, rfl, bp, gp, o⟩, _⟩ := he.at' i _ hi
    obtain ⟨w, hw, pl, rp⟩ := o.rep gp
    have sm : Same G (upd G p w) := fun b x q => by rw [upd_ne (ne_of_none q gp)]; exact q
    have il : i < Γ.length := (List.getElem?_eq_some_iff.mp hi).1
    refine ⟨upd G p w, sm, ⟨he.bh, he.g0.trans sm, fun b x q => ?_, fun b x q n => ?_, he.gt.upd pl.1, he.tb, by simpa using he.len, fun j r hj => ?_, fun j k x y q hj hk sj sk => ?_⟩⟩
    · by_cases hb : b = p
      · subst hb; rw [upd_same] at q; rw [hw]; exact q
      · rw [upd_ne hb] at q; exact he.gh b x q
    · by_cases hb : b = p
      · subst hb; exact absurd bp n
      · rw [upd_ne hb] at q; exact he.gf b x q n
    · rcases set_get hj with ⟨rfl, rfl, hl⟩ | ⟨hne, hj⟩
      · exact ⟨.ref p, h1, rp, fun _ z => by cases z⟩
      · obtain ⟨v', h1', h2', h3'⟩ := he.at' j r hj
        refine ⟨v', h1', ?_, h3'⟩
        cases r with
        | sh d' => exact Rep.mono sm h2'
        | fr d' =>
          obtain ⟨p', rfl, bp', gp', o'⟩ := h2'
          have np : p' ≠ p := fun z => by subst z; exact hne (he.sep j i _ _ p' hj hi h1' h1)
          exact ⟨p', rfl, bp', by rw [upd_ne np]; exact gp', o'.mono (LamX.ExtN.refl _) sm⟩
        | bo d' => exact absurd rfl (h3' d')
    · rcases set_get hj with ⟨_, z, _⟩ | ⟨nj, hj⟩
      · cases z
      · rcases set_get hk with ⟨_, z, _⟩ | ⟨nk, hk⟩
        · cases z
        · exact he.sep j k x y q hj hk sj sk
  · exact ⟨G, Same.refl _, he⟩
theorem rs_frz {sts : List Stmt} (i : Nat) (h : PSs X sts (tS c u)) : PSs X sts (tS c (sFrz i u)) := by
  refine PSs.weak h ?_
  rintro D σ H ⟨G, Γ, he, q⟩
  obtain ⟨G', s, he'⟩ := he.frz i
  exact ⟨G', _, he', PostS.later s q⟩
def setN : List Nat → List D → Env' → Option Env'
  | [], [], Γ => some Γ
  | i :: is, d :: ds, Γ => setN is ds (Γ.set i (some (.sh d)))
  | _, _, _ => none
def gNames : List Nat → TGs
  | [] => gNil
  | i :: is => gCons (gName i) (gNames is)
theorem gNames_ok {G H : Hp} {Q : St → Hp → Prop} : ∀ {is : List Nat} {ds : List D} {vs : List V} {σ : St} {Γ Γ' : Env'}, EnvOk c G H σ Γ → Reps c.K G vs ds → setN is ds Γ = some Γ' → (∀ σ', EnvOk c G H σ' Γ' → (∀ j, j ∉ is → σ'[j]? = σ[j]?) → Q σ' H) → gNames is vs σ H Q
  | [], [], _, σ, Γ, Γ', he, .nil, e, q => by
    cases e
    exact ⟨rfl, q σ he (fun _ _ => rfl)⟩
  | i :: is, d :: ds, _, σ, Γ, Γ', he, .cons (v := v) (vs := vs) r rs, e, q => by
    refine ⟨_, _, rfl, ?_⟩
    refine gNames_ok (is := is) (he.setSh i r) rs e fun σ' h1 h2 => q σ' h1 fun j hj => ?_
    rw [h2 j (fun z => hj (List.mem_cons_of_mem _ z)), List.getElem?_set_ne (fun z => hj (by rw [z]; exact List.mem_cons_self))]
  | [], _ :: _, _, _, _, _, _, _, e, _ => by cases e
  | _ :: _, [], _, _, _, _, _, _, e, _ => by cases e
inductive Tg where
  | one (i : Nat) | tup (is : List Nat)
def Tg.ix : Tg → List Nat
  | .one i => [i] | .tup is => is
def Tg.set : Tg → D → Env' → Option Env'
  | .one i, d, Γ => some (Γ.set i (some (.sh d)))
  | .tup is, .t ds, Γ => setN is ds Γ
  | .tup _, _, _ => none
def Tg.tgt (K : PySem.W.Frag) : Tg → TG
  | .one i => gName i
  | .tup is => gTup K is.length (gNames is)
theorem setN_length : ∀ {is : List Nat} {ds : List D} {Γ Γ' : Env'}, setN is ds Γ = some Γ' → ds.length = is.length
  | [], [], _, _, _ => rfl
  | _ :: is, _ :: ds, _, _, e => by simp [setN_length (is := is) e]
  | [], _ :: _, _, _, e => by cases e
  | _ :: _, [], _, _, e => by cases e
theorem Tg.ok {G H : Hp} {t : Tg} {d : D} {v : V} {σ : St} {Γ Γ' : Env'} {Q : St → Hp → Prop} (he : EnvOk c G H σ Γ) (r : Rep c.K G v d) (e : t.set d Γ = some Γ') (q : ∀ σ', EnvOk c G H σ' Γ' → (∀ j, j ∉ t.ix → σ'[j]? = σ[j]?) → Q σ' H) : t.tgt c.K v σ H Q := by
  cases t with
  | one i =>
    cases e
    exact q _ (he.setSh i r) fun j hj => List.getElem?_set_ne (fun z => hj (by rw [z]; exact List.mem_cons_self))
  | tup is =>
    cases d with
    | t ds =>
      obtain ⟨a, xs, e1, e2, e3⟩ := r.t_inv
      exact ⟨a, xs, e1, SqT.of (he.gh _ _ e2), by rw [e3.length, setN_length (show setN is ds Γ = some Γ' from e)], gNames_ok he e3 e q⟩
    | _ => cases e
theorem rg_one (cy : Cy X c) {i : Nat} {x : Str} (hi : X.N[i]? = some x) (hx : Loc X.env.scope x) (hf : X.fn x = true ∨ X.env.scope.names.lookup x = some .local := by first | exact .inl rfl | exact .inr rfl) : PG X (.Name x pos) ((Tg.one i).tgt c.K) :=
  pg_name cy.nd hi hx hf
def sAsg (t : Tg) (f : FE) : FS := fun Γ => (f Γ).fl Γ fun r => match r with
  | .sh d => (match t.set d Γ with | some Γ' => .nx Γ' | none => .bad)
  | _ => .bad
theorem rs_asg {t : Tg} {tg : Expr} (hg : PG X tg (t.tgt c.K)) (ha : PE X e (tE c f)) (hs : swapsWithSole [tg] e pos.line X.env = pure false := by rfl) (hw : swappedStores [tg] e X.env = pure none := by rfl)
    (h1 : (assignEach [tg] X.env).map (·.2) = [assign tg X.env] := by rfl) : PS X (.Assign [tg] e pos) (tS c (sAsg t f)) := by
  refine PS.weak (ps_asg ha hg hs hw h1) ?_
  rintro D σ H ⟨G, Γ, he, q⟩
  refine sE he q fun r v G1 H1 _ g1 v1 fr he1 q1 => ?_
  cases r with
  | sh d =>
    dsimp only at q1
    cases e' : t.set d Γ with
    | none => rw [e'] at q1; exact q1.elim
    | some Γ' =>
      rw [e'] at q1
      exact Tg.ok he1 v1 e' fun σ' h1 _ => q1 σ' G1 H1 h1 (Same.refl _)
  | fr d => exact q1.elim
  | bo d => exact q1.elim
end
end Ly
end

section
set_option maxRecDepth 100000
namespace Ly
open PySem PySem.Spec L2
open PyProof.Rows hiding St
variable [Tb]

theorem Own.at {K : PySem.W.Frag} {G H H' : Hp} {p : Addr} {d : D} (e : H' p = H p) (o : Own K G H p d) : Own K G H' p d := by
  cases o with
  | l h r => exact .l (e.trans h) r
  | dk h q r => exact .dk (e.trans h) q r
  | dt h q r => exact .dt (e.trans h) q r
section
variable {X : Cx} {c : LC} {a b e : Expr} {es : List Expr} {f g h : FE} {ft : FT} {fa : FA} {u v : FS} {pos : Pos}
theorem EnvOk.put {G H : Hp} {σ : St} {Γ : Env'} (he : EnvOk c G H σ Γ) {i : Nat} {p : Addr} {d d' : D} {o' : HO} (hi : Γ[i]? = some (some (.fr d))) (hs : σ[i]? = some (some (.ref p))) (o : Own c.K G (upd H p o') p d') :
    EnvOk c G (upd H p o') σ (Γ.set i (some (.fr d'))) := by
  obtain ⟨v, h1, ⟨p', e', bp, gp, o0⟩, _⟩ := he.at' i _ hi
  rw [hs] at h1
  cases h1
  cases e'
  obtain ⟨u0, hu0, pl0⟩ := o0.some
  refine ⟨Kept.upd he.bh bp, he.g0, fun b x q => ?_, he.gf, he.gt, tabs_put he.tb hu0 pl0, by simpa using he.len, fun j r hj => ?_, fun j k x y q hj hk sj sk => ?_⟩
  · rw [upd_ne (ne_of_none q gp)]; exact he.gh b x q
  · rcases set_get hj with ⟨rfl, rfl, hl⟩ | ⟨hne, hj⟩
    · exact ⟨.ref p, hs, ⟨p, rfl, bp, gp, o⟩, fun _ z => by cases z⟩
    · obtain ⟨w, h1, h2, h3⟩ := he.at' j r hj
      refine ⟨w, h1, ?_, h3⟩
      cases r with
      | sh x => exact h2
      | fr x =>
        obtain ⟨q, rfl, bq, gq, oq⟩ := h2
        have nq : q ≠ p := fun z => by subst z; exact hne (he.sep j i _ _ q hj hi h1 hs)
        exact ⟨q, rfl, bq, gq, oq.at (upd_ne nq)⟩
      | bo x => exact absurd rfl (h3 x)
  · have old : ∀ (m : Nat) (z : D), (Γ.set i (some (.fr d')))[m]? = some (some (.fr z)) → ∃ z', Γ[m]? = some (some (.fr z')) := fun m z hm => by
      rcases set_get hm with ⟨rfl, _, _⟩ | ⟨_, hm⟩
      · exact ⟨_, hi⟩
      · exact ⟨_, hm⟩
    obtain ⟨x', hj'⟩ := old j x hj
    obtain ⟨y', hk'⟩ := old k y hk
    exact he.sep j k x' y' q hj' hk' sj sk
theorem EnvOk.list {G H : Hp} {σ : St} {Γ : Env'} (he : EnvOk c G H σ Γ) {i : Nat} {ds : List D} (hi : Γ[i]? = some (some (.fr (.l ds)))) :
    ∃ p xs, σ[i]? = some (some (.ref p)) ∧ G p = none ∧ H p = some (.lst xs) ∧ Reps c.K G xs ds := by
  obtain ⟨v, h1, ⟨p, rfl, bp, gp, o⟩, _⟩ := he.at' i _ hi
  cases o with
  | l h2 h3 => exact ⟨p, _, h1, gp, h2, h3⟩
theorem sS {σ : St} {H G : Hp} {Γ : Env'} {D' : Ends} {k : D → Fl} {R : VK} (he : EnvOk c G H σ Γ) (h : PostS c ((f Γ).fl Γ fun r => (share r).fl Γ k) G D')
    (hk : ∀ d v G' H', Gr G H G' H' → Rep c.K G' v d → EnvOk c G' H' σ Γ → PostS c (k d) G' D' → R v H') : tE c f σ H R := by
  refine sE0 he h fun r v G1 H1 _ g1 v1 fr q1 => ?_
  cases e1 : share r with
  | bad => rw [e1] at q1; exact q1.elim
  | ex x => cases r <;> cases e1
  | ok d =>
    rw [e1] at q1
    obtain ⟨G2, g2, s2, rp⟩ := v1.share g1 fr e1
    exact hk d v G2 H1 g2 rp (he.mono g2) (PostS.later g2.gg q1)

def sApp (i : Nat) (f : FE) : FS := fun Γ => match Γ[i]? with
  | some (some (.fr (.l ds))) => (f Γ).fl Γ fun r => (share r).fl Γ fun d => if ds.length < 16777216 then .nx (Γ.set i (some (.fr (.l (ds ++ [d]))))) else .bad
  | _ => .bad
theorem rs_app {i : Nat} {x : Str} {px apos cpos : Pos} (hN : X.N[i]? = some x) (hv : Vis X.env.scope x) (ha : PE X e (tE c f))
    (hd : (x == ("__debug__" : Str)) = false := by decide) (hcd : (x == ("__classdict__" : Str)) = false := by decide)
    (hsw : swapsWith (.Call (.Attribute (.Name x px) "append" apos) [e] [] cpos) none pos.line X.env = pure false := by rfl)
    (hbase : attributeBase (.Name x px) "append" X.env (eval (.Name x px) X.env) = eval (.Name x px) X.env := by rfl)
    (hfew : ((backTo cpos (starEach [e] X.env)).all (fun x => !x.1) && (backToKw cpos (keywordEach [] X.env)).all (fun x => x.1.isSome)
      && decide ([e].length + ([] : List Keyword).length + (if ([] : List Keyword).isEmpty then 0 else 1) < 30)) = true := by rfl)
    (hline : (apos.endLine == cpos.line) = true := by rfl) (hs : starEach [e] X.env = [(false, eval e X.env)] := by rfl) :
    PS X (.Expr (.Call (.Attribute (.Name x px) "append" apos) [e] [] cpos) pos) (tS c (sApp i f)) := by
  refine PS.weak (ps_expr (pe_bm PySem.F.plainAttrs_list PySem.F.slot_list_append PySem.F.type_list_append mt_append (pe_var hN hv hd hcd) (pa_cons ha pa_nil hs) hbase hfew hline hs) hsw) ?_
  rintro D σ H ⟨G, Γ, he, q⟩
  unfold sApp at q
  split at q
  · rename_i ds hi
    obtain ⟨p, xs, h1, gp, h2, h3⟩ := he.list hi
    refine ⟨_, h1, .inl ⟨rfl, _, SqL.of h2⟩, ?_⟩
    refine sS he q fun d v G1 H1 g1 r1 he1 q1 => ?_
    split at q1
    · refine ⟨p, xs, v, rfl, rfl, g1.hh _ _ h2 (fun _ z => by cases z), by rw [h3.length, sizeLine_eq]; assumption, ?_⟩
      exact q1 σ G1 _ (he1.put (d' := .l (ds ++ [d])) hi h1 (.l upd_same ((h3.mono g1.gg).append (.cons r1 .nil)))) (Same.refl _)
    · exact q1.elim
  · exact q.elim
def sIns (i : Nat) (f g : FE) : FS := fun Γ => match Γ[i]? with
  | some (some (.fr (.l ds))) => (f Γ).fl Γ fun r => match r.d with
    | .i k => (g Γ).fl Γ fun r => (share r).fl Γ fun d => if ds.length < 16777216 ∧ 0 ≤ k ∧ k < 2 ^ 63 then .nx (Γ.set i (some (.fr (.l (ds.take k.toNat ++ [d] ++ ds.drop k.toNat))))) else .bad
    | _ => .bad
  | _ => .bad
theorem rs_ins {i : Nat} {x : Str} {px apos cpos : Pos} (hN : X.N[i]? = some x) (hv : Vis X.env.scope x) (ha : PE X a (tE c f)) (hb : PE X b (tE c g))
    (hd : (x == ("__debug__" : Str)) = false := by decide) (hcd : (x == ("__classdict__" : Str)) = false := by decide)
    (hsw : swapsWith (.Call (.Attribute (.Name x px) "insert" apos) [a, b] [] cpos) none pos.line X.env = pure false := by rfl)
    (hbase : attributeBase (.Name x px) "insert" X.env (eval (.Name x px) X.env) = eval (.Name x px) X.env := by rfl)
    (hfew : ((backTo cpos (starEach [a, b] X.env)).all (fun x => !x.1) && (backToKw cpos (keywordEach [] X.env)).all (fun x => x.1.isSome)
      && decide ([a, b].length + ([] : List Keyword).length + (if ([] : List Keyword).isEmpty then 0 else 1) < 30)) = true := by rfl)
    (hline : (apos.endLine == cpos.line) = true := by rfl) (hs : starEach [a, b] X.env = (false, eval a X.env) :: starEach [b] X.env := by rfl) (hs2 : starEach [b] X.env = [(false, eval b X.env)] := by rfl)
    (hpl : (backTo cpos (starEach [b] X.env)).any (·.1) = false := by rfl) :
    PS X (.Expr (.Call (.Attribute (.Name x px) "insert" apos) [a, b] [] cpos) pos) (tS c (sIns i f g)) := by
  refine PS.weak (ps_expr (pe_bm PySem.F.plainAttrs_list PySem.F.slot_list_insert PySem.F.type_list_insert mt_insert (pe_var hN hv hd hcd) (pa_cons ha (pa_cons hb pa_nil hs2) hs) hbase hfew hline hs hpl) hsw) ?_
  rintro D σ H ⟨G, Γ, he, q⟩
  unfold sIns at q
  split at q
  · rename_i ds hi
    obtain ⟨p, xs, h1, gp, h2, h3⟩ := he.list hi
    refine ⟨_, h1, .inl ⟨rfl, _, SqL.of h2⟩, ?_⟩
    refine sE he q fun r v G1 H1 _ g1 v1 fr he1 q1 => ?_
    split at q1
    · rename_i k ek
      refine sS he1 q1 fun d w G2 H2 g2 r2 he2 q2 => ?_
      split at q2
      · rename_i hc
        cases v1.int ek
        refine ⟨p, xs, k, w, rfl, rfl, g2.hh _ _ (g1.hh _ _ h2 fun _ z => by cases z) (fun _ z => by cases z), by rw [h3.length, sizeLine_eq]; exact hc.1, hc.2.1, hc.2.2, ?_⟩
        have h3' := (h3.mono g1.gg).mono g2.gg
        exact q2 σ G2 _ (he2.put (d' := .l (ds.take k.toNat ++ [d] ++ ds.drop k.toNat)) hi h1 (.l upd_same (((h3'.take _).append (.cons r2 .nil)).append (h3'.drop _)))) (Same.refl _)
      · exact q2.elim
    · exact q1.elim
  · exact q.elim

def tGt (c : LC) (s : D → Env' → Re Env') : TG := fun v σ H Q => ∃ G Γ d, EnvOk c G H σ Γ ∧ Rep c.K G v d ∧ match s d Γ with
  | .ok Γ' => ∀ σ' G' H', EnvOk c G' H' σ' Γ' → Same G G' → Q σ' H'
  | _ => False
theorem PG.weak {tg : Expr} {t t' : TG} (h : PG X tg t) (w : ∀ v σ H Q, t' v σ H Q → t v σ H Q) : PG X tg t' := ⟨fun pins s σ H v u Q I r q => h.run pins s σ H v u Q I r (w _ _ _ _ q)⟩
def gOne (i : Nat) : D → Env' → Re Env' := fun d Γ => .ok (Γ.set i (some (.sh d)))
def gSubL (i : Nat) (f : FE) : D → Env' → Re Env' := fun d Γ => match Γ[i]? with
  | some (some (.fr (.l ds))) => (f Γ).bind fun r => match r.d with
    | .i k => (match ixN ds.length k with | some j => .ok (Γ.set i (some (.fr (.l (ds.set j d))))) | none => .bad)
    | _ => .bad
  | _ => .bad
theorem rg_name (cy : Cy X c) {i : Nat} {x : Str} (hi : X.N[i]? = some x) (hx : Loc X.env.scope x) (hf : X.fn x = true ∨ X.env.scope.names.lookup x = some .local := by first | exact .inl rfl | exact .inr rfl) : PG X (.Name x pos) (tGt c (gOne i)) :=
  PG.weak (pg_name cy.nd hi hx hf) fun v σ H Q ⟨G, Γ, d, he, r, q⟩ => q _ G H (he.setSh i r) (Same.refl _)
theorem rg_sub {i : Nat} {x : Str} {px : Pos} (hN : X.N[i]? = some x) (hv : Vis X.env.scope x) (hb : PE X b (tE c f))
    (hd : (x == ("__debug__" : Str)) = false := by decide) (hcd : (x == ("__classdict__" : Str)) = false := by decide)
    (ha : ∀ v, assign (.Subscript (.Name x px) b pos) X.env v = (do
      let ov ← holding [v] (eval (.Name x px) X.env)
      let iv ← holding [v, ov] (eval b X.env)
      standAt pos
      holding [v, ov, iv] (setItem ov iv v)
      release [v, ov, iv] []) := by intro _; rfl) :
    PG X (.Subscript (.Name x px) b pos) (tGt c (gSubL i f)) := by
  refine PG.weak (pg_sub (pe_var hN hv hd hcd) hb set_list ha) ?_
  rintro v σ H Q ⟨G, Γ, d, he, r, q⟩
  cases e : gSubL i f d Γ with
  | bad => rw [e] at q; exact q.elim
  | ex x => rw [e] at q; exact q.elim
  | ok Γ' =>
    rw [e] at q
    unfold gSubL at e
    split at e
    · rename_i ds hi
      obtain ⟨p, xs, h1, gp, h2, h3⟩ := he.list hi
      refine ⟨_, h1, G, Γ, he, ?_⟩
      cases ef : f Γ with
      | bad => rw [ef] at e; cases e
      | ex x => rw [ef] at e; cases e
      | ok rr =>
        rw [ef] at e
        simp only [Re.bind_ok] at e
        intro w G1 H1 g1 v1 fr
        split at e
        · rename_i k ek
          split at e
          · rename_i j hj
            cases e
            cases v1.int ek
            refine ⟨p, xs, k, j, rfl, rfl, g1.hh _ _ h2 (fun _ z => by cases z), by rw [h3.length]; exact hj, ?_⟩
            exact q σ G1 _ ((he.mono g1).put (d' := .l (ds.set j d)) hi h1 (.l upd_same ((h3.mono g1.gg).set (r.mono g1.gg) j))) g1.gg
          · cases e
        · cases e
    · cases e
def gAll : List (D → Env' → Re Env') → List D → Env' → Re Env'
  | [], [], Γ => .ok Γ
  | s :: ss, d :: ds, Γ => (s d Γ).bind fun Γ' => gAll ss ds Γ'
  | _, _, _ => .bad
def tGts (c : LC) : List (D → Env' → Re Env') → TGs
  | [] => gNil
  | s :: ss => gCons (tGt c s) (tGts c ss)
theorem gAll_ok {Q : St → Hp → Prop} : ∀ {ss : List (D → Env' → Re Env')} {ds : List D} {vs : List V} {σ : St} {Γ Γ' : Env'} {G H : Hp}, EnvOk c G H σ Γ → Reps c.K G vs ds → gAll ss ds Γ = .ok Γ' →
    (∀ σ' G' H', EnvOk c G' H' σ' Γ' → Same G G' → Q σ' H') → tGts c ss vs σ H Q
  | [], [], _, σ, Γ, Γ', G, H, he, .nil, e, q => by
    cases e
    exact ⟨rfl, q σ G H he (Same.refl _)⟩
  | s :: ss, d :: ds, _, σ, Γ, Γ', G, H, he, .cons (v := v) (vs := vs) r rs, e, q => by
    refine ⟨_, _, rfl, G, Γ, d, he, r, ?_⟩
    have e' : (s d Γ).bind (fun Γ' => gAll ss ds Γ') = .ok Γ' := e
    cases es : s d Γ with
    | bad => rw [es] at e'; cases e'
    | ex x => rw [es] at e'; cases e'
    | ok Γ1 =>
      rw [es] at e'
      exact fun σ1 G1 H1 he1 s1 => gAll_ok he1 (rs.mono s1) e' fun σ2 G2 H2 he2 s2 => q σ2 G2 H2 he2 (s1.trans s2)
  | [], _ :: _, _, _, _, _, _, _, _, _, e, _ => by cases e
  | _ :: _, [], _, _, _, _, _, _, _, _, e, _ => by cases e
def gTupL (ss : List (D → Env' → Re Env')) : D → Env' → Re Env' := fun d Γ => match d with
  | .t ds => gAll ss ds Γ | _ => .bad
theorem gAll_length : ∀ {ss : List (D → Env' → Re Env')} {ds : List D} {Γ Γ' : Env'}, gAll ss ds Γ = .ok Γ' → ds.length = ss.length
  | [], [], _, _, _ => rfl
  | s :: ss, d :: ds, Γ, Γ', e => by
    have e' : (s d Γ).bind (fun Γ' => gAll ss ds Γ') = .ok Γ' := e
    cases es : s d Γ with
    | bad => rw [es] at e'; cases e'
    | ex x => rw [es] at e'; cases e'
    | ok Γ1 => rw [es] at e'; simp [gAll_length (show gAll ss ds Γ1 = .ok Γ' from e')]
  | [], _ :: _, _, _, e => by cases e
  | _ :: _, [], _, _, e => by cases e
theorem rg_nil : PGs X [] (tGts c []) := pgs_nil
theorem rg_cons {s : D → Env' → Re Env'} {ss : List (D → Env' → Re Env')} (h1 : PG X e (tGt c s)) (h2 : PGs X es (tGts c ss))
    (hs : (assignEach (e :: es) X.env).map (·.2) = assign e X.env :: (assignEach es X.env).map (·.2) := by rfl) : PGs X (e :: es) (tGts c (s :: ss)) := pgs_cons h1 h2 hs
theorem rg_tup (cy : Cy X c) {k : Nat} {ss : List (D → Env' → Re Env')} (h : PGs X es (tGts c ss)) (hn : (assignEach es X.env).length = ss.length := by rfl) (hst : (assignEach es X.env).findIdx? (·.1) = none := by rfl) :
    PG X (.Tuple es k pos) (tGt c (gTupL ss)) := by
  refine PG.weak (pg_tup cy.calm h hn hst) ?_
  rintro v σ H Q ⟨G, Γ, d, he, r, q⟩
  cases d with
  | t ds =>
    obtain ⟨a, xs, e1, e2, e3⟩ := r.t_inv
    cases e : gAll ss ds Γ with
    | bad => rw [show gTupL ss (D.t ds) Γ = gAll ss ds Γ from rfl, e] at q; exact q.elim
    | ex x => rw [show gTupL ss (D.t ds) Γ = gAll ss ds Γ from rfl, e] at q; exact q.elim
    | ok Γ' =>
      rw [show gTupL ss (D.t ds) Γ = gAll ss ds Γ from rfl, e] at q
      refine ⟨a, xs, e1, by rw [cy.K]; exact SqT.of (he.gh _ _ e2), by rw [e3.length, gAll_length e], gAll_ok he e3 e q⟩
  | _ => exact q.elim
def sAsgT (s : D → Env' → Re Env') (f : FE) : FS := fun Γ => (f Γ).fl Γ fun r => (share r).fl Γ fun d => match s d Γ with
  | .ok Γ' => .nx Γ' | _ => .bad
theorem rs_asgT {s : D → Env' → Re Env'} {tg : Expr} (hg : PG X tg (tGt c s)) (ha : PE X e (tE c f)) (hs : swapsWithSole [tg] e pos.line X.env = pure false := by rfl) (hw : swappedStores [tg] e X.env = pure none := by rfl)
    (h1 : (assignEach [tg] X.env).map (·.2) = [assign tg X.env] := by rfl) : PS X (.Assign [tg] e pos) (tS c (sAsgT s f)) := by
  refine PS.weak (ps_asg ha hg hs hw h1) ?_
  rintro D σ H ⟨G, Γ, he, q⟩
  refine sS he q fun d v G1 H1 g1 r1 he1 q1 => ⟨G1, Γ, d, he1, r1, ?_⟩
  cases es : s d Γ with
  | bad => rw [es] at q1; exact q1.elim
  | ex x => rw [es] at q1; exact q1.elim
  | ok Γ' => rw [es] at q1; exact q1
def sAug (i : Nat) (k : Rv → Rv → Re Rv) (f : FE) : FS := fun Γ => (eV i Γ).fl Γ fun x => (f Γ).fl Γ fun y => (k x y).fl Γ (setR i Γ)
theorem rs_aug (cy : Cy X c) {i : Nat} {x : Str} {pos' : Pos} {op : Operator} {r : R2} {k : Rv → Rv → Re Rv} (hi : X.N[i]? = some x) (hx : Loc X.env.scope x) (ho : OpR X (inplaceOp op) r) (hk : Ok2 c r k) (ha : PE X e (tE c f))
    (hf : X.fn x = true ∨ X.env.scope.names.lookup x = some .local := by first | exact .inl rfl | exact .inr rfl) : PS X (.AugAssign (.Name x pos') op e pos) (tS c (sAug i k f)) := by
  refine PS.weak (ps_aug cy.nd hi hx ha (ti := r) ho hf) ?_
  rintro D σ H ⟨G, Γ, he, q⟩
  have hx : ∃ rx v, eV i Γ = .ok rx ∧ σ[i]? = some (some v) ∧ RV c G H v rx := by
    unfold sAug at q
    cases e1 : eV i Γ with
    | bad => rw [e1] at q; exact q.elim
    | ex x => unfold eV at e1; split at e1 <;> cases e1
    | ok rx =>
      unfold eV at e1
      split at e1
      · rename_i d hd
        cases e1
        obtain ⟨v, h1, h2, _⟩ := he.at' i _ hd
        exact ⟨_, v, rfl, h1, h2⟩
      · rename_i d hd
        cases e1
        obtain ⟨v, h1, h2, _⟩ := he.at' i _ hd
        exact ⟨_, v, rfl, h1, h2⟩
      · cases e1
  obtain ⟨rx, vx, e1, e2, v0⟩ := hx
  unfold sAug at q
  rw [e1] at q
  refine ⟨vx, e2, ?_⟩
  refine sE he q fun ry y G1 H1 _ g1 v1 fr he1 q1 => ?_
  refine hk σ G1 H1 vx y rx ry _ he1.gh he1.bh (v0.mono g1) v1 ?_
  cases e3 : k rx ry with
  | bad => rw [e3] at q1; exact q1
  | ex x => rw [e3] at q1; exact fun G' H' g => q1 σ G' H' (he1.mono g) g.gg
  | ok rz =>
    rw [e3] at q1
    exact fun z G2 H2 g2 v2 fr2 => set_env he1 g2 v2 fr2 q1
end
end Ly
end

section
set_option maxRecDepth 100000
namespace Ly
open PySem PySem.Spec L2
open PyProof.Rows hiding St
variable [Tb]

structure WalkOk (K : PySem.W.Frag) (G : Hp) (J : It) (ds : List D) : Prop where
  go : ∀ (G1 H1 : Hp), Same G G1 → Same G1 H1 → ∀ (i : Nat) (d : D), ds[i]? = some d → J.go i H1 ∧ ∀ x H2, J.yld i H1 x H2 → ∃ G2, Gr G1 H1 G2 H2 ∧ Rep K G2 x d
  stop : ∀ (H1 : Hp), Same G H1 → ∀ i, ds.length ≤ i → J.stop i H1
def PostI (c : LC) (re : Re (List D)) (σ : St) (G H : Hp) (R : It → Hp → Prop) : Prop := match re with
  | .ok ds => ∀ J G' H', Gr G H G' H' → WalkOk c.K G' J ds → R J H'
  | .ex e => ∀ G' H', Gr G H G' H' → ExAt c (fun C d H' => c.W C d σ H') e G' H'
  | .bad => False
def tI (c : LC) (f : FI) : TI := fun σ H R => ∃ G Γ, EnvOk c G H σ Γ ∧ PostI c (f Γ) σ G H R
theorem PI.weak {X : Cx} {tg e : Expr} {t t' : TI} (h : PI X tg e t) (w : ∀ σ H R, t' σ H R → t σ H R) : PI X tg e t' := ⟨fun pins s σ H R I q => h.run pins s σ H R I (w _ _ _ q)⟩
theorem PostI.later {c : LC} {re : Re (List D)} {σ : St} {G H G1 H1 : Hp} {R : It → Hp → Prop} (g : Gr G H G1 H1) (h : PostI c re σ G H R) : PostI c re σ G1 H1 R := by
  cases re with
  | bad => exact h
  | ex x => exact Post.ex_later g h
  | ok ds => exact fun J G2 H2 g2 w => h J G2 H2 (g.trans g2) w
section
variable {X : Cx} {c : LC} {a b e tg : Expr} {es : List Expr} {f g h : FE} {fi : FI} {fa : FA} {pos : Pos}
theorem iE {σ : St} {H : Hp} {G : Hp} {Γ : Env'} {Q : It → Hp → Prop} {k : Rv → Re (List D)} {R : VK} (he : EnvOk c G H σ Γ) (h : PostI c ((f Γ).bind k) σ G H Q)
    (hk : ∀ r v G' H', f Γ = .ok r → Gr G H G' H' → RV c G' H' v r → Fresh H v r → EnvOk c G' H' σ Γ → PostI c (k r) σ G' H' Q → R v H') : tE c f σ H R :=
  tE_bind (P := fun r G H => PostI c r σ G H Q) he (fun _ _ h => h) (fun _ _ _ h => h) (fun _ _ _ _ _ g h => h.later g) h hk
theorem iE0 {σ : St} {H : Hp} {G : Hp} {Γ : Env'} {Q : It → Hp → Prop} {k : Rv → Re (List D)} {R : VK} (he : EnvOk c G H σ Γ) (h : PostI c ((f Γ).bind k) σ G H Q)
    (hk : ∀ r v G' H', f Γ = .ok r → Gr G H G' H' → RV c G' H' v r → Fresh H v r → PostI c (k r) σ G H Q → R v H') : tE c f σ H R :=
  tE_bind0 (P := fun r => PostI c r σ G H Q) he (fun h => h) (fun x h => h) h hk
def itL (f : FE) : FI := fun Γ => (f Γ).bind fun r => (share r).bind fun d => match d.seq? with
  | some ds => .ok ds | none => .bad
theorem walk_list {K : PySem.W.Frag} {G : Hp} {a : Addr} {xs : List V} {ds : List D} (h : SqL K G a xs) (r : Reps K G xs ds) : WalkOk K G (Itl K a) ds := by
  refine ⟨fun G1 H1 s1 s2 i d hi => ?_, fun H1 s1 i hi => ⟨xs, s1.seq h, by rw [r.length]; exact hi⟩⟩
  obtain ⟨v, hv, rv⟩ := r.get' hi
  have h1 := s2.seq (s1.seq h)
  refine ⟨⟨xs, v, h1, hv⟩, ?_⟩
  rintro x H2 ⟨rfl, hx⟩
  have e := hx xs h1
  rw [hv] at e
  cases e
  exact ⟨G1, .refl s2, rv.mono s1⟩
theorem ri_list (cy : Cy X c) (ha : PE X e (tE c f)) : PI X tg e (tI c (itL f)) := by
  refine PI.weak (pi_list ha) ?_
  rintro σ H R ⟨G, Γ, he, q⟩
  refine iE0 he q fun r v G1 H1 eq1 g1 v1 fr q1 => ?_
  cases e1 : share r with
  | bad => rw [e1] at q1; exact q1.elim
  | ex x => cases r <;> cases e1
  | ok d =>
    rw [e1] at q1
    obtain ⟨G2, g2, s2, rp⟩ := v1.share g1 fr e1
    simp only [Re.bind_ok] at q1
    rw [cy.K]
    cases d with
    | l ds =>
      obtain ⟨a, xs, rfl, h1, h2⟩ := rp.l_inv
      exact ⟨a, rfl, ⟨xs, .of (g2.gh _ _ h1)⟩, q1 _ _ _ g2 (walk_list (.of h1) h2)⟩
    | z ds =>
      obtain ⟨a, xs, rfl, h1, h2⟩ := rp.z_inv
      exact ⟨a, rfl, ⟨xs, g2.gh.seq h1⟩, q1 _ _ _ g2 (walk_list h1 h2)⟩
    | _ => exact q1.elim
def itT (f : FE) : FI := fun Γ => (f Γ).bind fun r => match r with
  | .sh (.t ds) => .ok ds | .sh (.zt ds) => .ok ds | _ => .bad
theorem walk_tup {K : PySem.W.Frag} {G : Hp} {a : Addr} {xs : List V} {ds : List D} (h1 : SqT K G a xs) (h2 : Reps K G xs ds) : WalkOk K G (Itt K a) ds := by
  refine ⟨fun G2 H2 s1 s2 i d hi => ?_, fun H2 s1 i hi => ⟨xs, Same.tup s1 h1, by rw [h2.length]; exact hi⟩⟩
  obtain ⟨v, hv, rv⟩ := h2.get' hi
  have h3 := Same.tup s2 (Same.tup s1 h1)
  refine ⟨⟨xs, v, h3, hv⟩, ?_⟩
  rintro x H3 ⟨rfl, hx⟩
  have e := hx xs h3
  rw [hv] at e
  cases e
  exact ⟨G2, .refl s2, rv.mono s1⟩
theorem ri_tup (cy : Cy X c) (ha : PE X e (tE c f)) : PI X tg e (tI c (itT f)) := by
  refine PI.weak (pi_tup ha) ?_
  rintro σ H R ⟨G, Γ, he, q⟩
  refine iE he q fun r v G1 H1 eq1 g1 v1 fr he1 q1 => ?_
  split at q1
  · rename_i ds
    obtain ⟨a, xs, rfl, h1, h2⟩ := Rep.t_inv v1
    rw [cy.K]
    exact ⟨a, rfl, ⟨xs, SqT.of (he1.gh _ _ h1)⟩, q1 _ G1 H1 (.refl he1.gh) (walk_tup (SqT.of h1) h2)⟩
  · rename_i ds
    obtain ⟨a, xs, rfl, h1, h2⟩ := Rep.zt_inv v1
    rw [cy.K]
    exact ⟨a, rfl, ⟨xs, Same.tup he1.gh h1⟩, q1 _ G1 H1 (.refl he1.gh) (walk_tup h1 h2)⟩
  · exact q1.elim
def rgb (a b : Int) : Bool := decide (-(2 ^ 62) ≤ a ∧ a < 2 ^ 62 ∧ -(2 ^ 62) ≤ b ∧ b < 2 ^ 62)
theorem walk_range {K : PySem.W.Frag} {G : Hp} {lo : Int} {n : Nat} : WalkOk K G (Itr lo n) ((List.range n).map fun k => D.i (lo + (k : Nat))) := by
  refine ⟨fun G1 H1 s1 s2 i d hi => ?_, fun H1 s1 i hi => (by simpa using hi : n ≤ i)⟩
  rw [List.getElem?_map] at hi
  have hin : i < n := by
    rcases Nat.lt_or_ge i n with h | h
    · exact h
    · rw [List.getElem?_eq_none (by simpa using h)] at hi; cases hi
  rw [List.getElem?_range hin] at hi
  cases hi
  refine ⟨hin, ?_⟩
  rintro x H2 ⟨rfl, rfl⟩
  exact ⟨G1, .refl s2, .i _⟩
def itR (lo hi : Int) : Re (List D) := if rgb lo hi = true then .ok (rgD lo hi) else .bad
def itR1 (f : FE) : FI := fun Γ => (f Γ).bind fun r => match r with
  | .sh (.i j) => itR 0 j | _ => .bad
theorem ri_range1 {p : Pos} (hg : Gl X "range") (hm : X.mg "range" = none) (ha : PE X a (tE c f)) (hs : starEach [a] X.env = [(false, eval a X.env)] := by rfl) : PI X tg (.Call (.Name "range" p) [a] [] pos) (tI c (itR1 f)) := by
  refine PI.weak (pi_range1 hg hm (pa_cons ha pa_nil hs) hs) ?_
  rintro σ H R ⟨G, Γ, he, q⟩
  refine iE he q fun r v G1 H1 eq1 g1 v1 fr he1 q1 => ?_
  split at q1
  · rename_i j
    unfold itR at q1
    split at q1
    · rename_i hb
      obtain ⟨_, _, h3, h4⟩ := of_decide_eq_true hb
      cases (Rep.int_inv v1)
      refine ⟨j, rfl, h3, h4, q1 _ G1 H1 (.refl he1.gh) ?_⟩
      have w := walk_range (K := c.K) (G := G1) (lo := 0) (n := j.toNat)
      unfold rgD
      rw [Int.sub_zero]
      exact w
    · exact q1.elim
  · exact q1.elim
def itR2 (f g : FE) : FI := fun Γ => (f Γ).bind fun r => (g Γ).bind fun s => match r, s with
  | .sh (.i i), .sh (.i j) => itR i j | _, _ => .bad
theorem ri_range2 {p : Pos} (hg : Gl X "range") (hm : X.mg "range" = none) (ha : PE X a (tE c f)) (hb : PE X b (tE c g)) (hs : starEach [a, b] X.env = [(false, eval a X.env), (false, eval b X.env)] := by rfl) (hs2 : starEach [b] X.env = [(false, eval b X.env)] := by rfl) :
    PI X tg (.Call (.Name "range" p) [a, b] [] pos) (tI c (itR2 f g)) := by
  refine PI.weak (pi_range2 hg hm (pa_cons ha (pa_cons hb pa_nil hs2) (by rw [hs, hs2])) hs hs2) ?_
  rintro σ H R ⟨G, Γ, he, q⟩
  refine iE he q fun r v G1 H1 eq1 g1 v1 fr he1 q1 => ?_
  refine iE he1 q1 fun s w G2 H2 eq2 g2 v2 fr2 he2 q2 => ?_
  split at q2
  · rename_i i j
    unfold itR at q2
    split at q2
    · rename_i hb
      cases (Rep.int_inv v1)
      cases (Rep.int_inv v2)
      exact ⟨i, j, rfl, of_decide_eq_true hb, q2 _ G2 H2 (.refl he2.gh) walk_range⟩
    · exact q2.elim
  · exact q2.elim
def rg3 (lo st : Int) (n : Nat) : List D := (List.range n).map fun k => D.i (lo + (k : Nat) * st)
def itR3 (f g h : FE) : FI := fun Γ => (f Γ).bind fun r => (g Γ).bind fun s => (h Γ).bind fun t => match r, s, t with
  | .sh (.i i), .sh (.i j), .sh (.i k) => if k ≠ 0 ∧ k.natAbs < 1073741824 ∧ Builtin.Range.small i j k = true then .ok (rg3 i k (Builtin.Range.rangeSize i j k).toNat) else .bad
  | _, _, _ => .bad
theorem rangeSize_nn (i j k : Int) : Builtin.Range.rangeSize i j k = ((Builtin.Range.rangeSize i j k).toNat : Int) := by
  have h : 0 ≤ Builtin.Range.rangeSize i j k := by
    unfold Builtin.Range.rangeSize
    by_cases hk : k > 0
    · rw [if_pos hk]
      by_cases hij : i < j
      · rw [if_pos hij]
        have := Int.ediv_nonneg (a := j - i - 1) (b := k) (by omega) (by omega)
        omega
      · rw [if_neg hij]; exact Int.le_refl _
    · rw [if_neg hk]
      by_cases hij : i > j
      · rw [if_pos hij]
        have := Int.ediv_nonneg (a := i - j - 1) (b := -k) (by omega) (by omega)
        omega
      · rw [if_neg hij]; exact Int.le_refl _
  omega
theorem ri_range3 {d : Expr} {p : Pos} (hg : Gl X "range") (hm : X.mg "range" = none) (ha : PE X a (tE c f)) (hb : PE X b (tE c g)) (hd : PE X d (tE c h)) (hs : starEach [a, b, d] X.env = (false, eval a X.env) :: starEach [b, d] X.env := by rfl)
    (hs2 : starEach [b, d] X.env = (false, eval b X.env) :: starEach [d] X.env := by rfl) (hs3 : starEach [d] X.env = [(false, eval d X.env)] := by rfl) (hpl : (backTo pos (starEach [b, d] X.env)).any (·.1) = false := by rfl) :
    PI X tg (.Call (.Name "range" p) [a, b, d] [] pos) (tI c (itR3 f g h)) := by
  refine PI.weak (pi_range3 hg hm (pa_cons ha (pa_cons hb (pa_cons hd pa_nil hs3) hs2) hs) hs hpl) ?_
  rintro σ H R ⟨G, Γ, he, q⟩
  refine iE he q fun r v G1 H1 eq1 g1 v1 fr he1 q1 => ?_
  refine iE he1 q1 fun s w G2 H2 eq2 g2 v2 fr2 he2 q2 => ?_
  refine iE he2 q2 fun t u G3 H3 eq3 g3 v3 fr3 he3 q3 => ?_
  split at q3
  · rename_i i j k
    split at q3
    · rename_i hc
      cases (Rep.int_inv v1)
      cases (Rep.int_inv v2)
      cases (Rep.int_inv v3)
      refine ⟨i, j, k, (Builtin.Range.rangeSize i j k).toNat, rfl, ⟨hc.1, hc.2.1, hc.2.2, rangeSize_nn i j k⟩, q3 _ G3 H3 (.refl he3.gh) ?_⟩
      refine ⟨fun G4 H4 s1 s2 m d hi => ?_, fun H1 s1 m hm => (show (Builtin.Range.rangeSize i j k).toNat ≤ m by simpa only [rg3, List.length_map, List.length_range] using hm)⟩
      unfold rg3 at hi
      rw [List.getElem?_map] at hi
      have hin : m < (Builtin.Range.rangeSize i j k).toNat := by
        rcases Nat.lt_or_ge m (Builtin.Range.rangeSize i j k).toNat with h | h
        · exact h
        · rw [List.getElem?_eq_none (by simpa using h)] at hi; cases hi
      rw [List.getElem?_range hin] at hi
      cases hi
      refine ⟨hin, ?_⟩
      rintro x H5 ⟨rfl, rfl⟩
      exact ⟨G4, .refl s2, .i _⟩
    · exact q3.elim
  · exact q3.elim
def signs (x : Str) : List D := x.cps.toList.map fun k => D.s ⟨#[k]⟩
def itS (f : FE) : FI := fun Γ => (f Γ).bind fun r => match r with
  | .sh (.s x) => .ok (signs x) | _ => .bad
theorem ri_str (ha : PE X e (tE c f)) : PI X tg e (tI c (itS f)) := by
  refine PI.weak (pi_str ha) ?_
  rintro σ H R ⟨G, Γ, he, q⟩
  refine iE he q fun r v G1 H1 eq1 g1 v1 fr he1 q1 => ?_
  split at q1
  · rename_i x
    refine ⟨x, Rep.str_inv v1, q1 _ G1 H1 (.refl he1.gh) ⟨fun G2 H2 s1 s2 i d hi => ?_, fun H2 s1 i hi => (show x.cps.size ≤ i by simpa [signs] using hi)⟩⟩
    unfold signs at hi
    rw [List.getElem?_map] at hi
    cases ec : x.cps[i]? with
    | none => simp [ec] at hi
    | some k =>
      have hi' : D.s ⟨#[k]⟩ = d := by simpa [ec] using hi
      subst hi'
      refine ⟨(Array.getElem?_eq_some_iff.mp ec).1, ?_⟩
      rintro y H3 ⟨rfl, k', hk', rfl⟩
      rw [ec] at hk'
      cases hk'
      exact ⟨G2, .refl s2, .s _⟩
  · exact q1.elim
def enumD (ds : List D) : List D := (List.range ds.length).zipWith (fun (k : Nat) d => D.t [.i (k : Nat), d]) ds
def itE (f : FE) : FI := fun Γ => (f Γ).bind fun r => (share r).bind fun d => match d.seq? with
  | some ds => .ok (enumD ds) | none => .bad
theorem enumD_get {ds : List D} {i : Nat} {d : D} (h : (enumD ds)[i]? = some d) : ∃ e, ds[i]? = some e ∧ d = .t [.i (i : Nat), e] := by
  unfold enumD at h
  rw [List.getElem?_zipWith] at h
  cases e1 : ds[i]? with
  | none => rw [e1] at h; cases e2 : (List.range ds.length)[i]? <;> rw [e2] at h <;> cases h
  | some e =>
    have hl : i < ds.length := (List.getElem?_eq_some_iff.mp e1).1
    rw [e1, List.getElem?_range hl] at h
    exact ⟨e, rfl, (Option.some.inj h).symm⟩
theorem ri_enum (cy : Cy X c) {p tpos : Pos} {elts : List Expr} {kk : Nat} (hg : Gl X "enumerate") (hm : X.mg "enumerate" = none) (ha : PE X e (tE c f)) (hs : starEach [e] X.env = [(false, eval e X.env)] := by rfl) :
    PI X (.Tuple elts kk tpos) (.Call (.Name "enumerate" p) [e] [] pos) (tI c (itE f)) := by
  refine PI.weak (pi_enum hg hm (pa_cons ha pa_nil hs) hs) ?_
  rintro σ H R ⟨G, Γ, he, q⟩
  refine iE0 he q fun r v G1 H1 eq1 g1 v1 fr q1 => ?_
  cases e1 : share r with
  | bad => rw [e1] at q1; exact q1.elim
  | ex x => cases r <;> cases e1
  | ok d =>
    rw [e1] at q1
    obtain ⟨G2, g2, s2, rp⟩ := v1.share g1 fr e1
    simp only [Re.bind_ok] at q1
    rw [cy.K]
    have main : ∀ (a : Addr) (xs : List V) (ds : List D), SqL c.K G2 a xs → Reps c.K G2 xs ds → WalkOk c.K G2 (Ite c.K a) (enumD ds) := by
      intro a xs ds h1 h2
      refine ⟨fun G3 H3 s1 s2 i d hi => ?_, fun H3 s1 i hi => ⟨xs, s1.seq h1, by rw [h2.length]; simpa [enumD] using hi⟩⟩
      obtain ⟨e, he, rfl⟩ := enumD_get hi
      obtain ⟨v, hv, rv⟩ := h2.get' he
      have h3 := s2.seq (s1.seq h1)
      refine ⟨⟨xs, v, h3, hv⟩, ?_⟩
      rintro x H4 ⟨T, y, rfl, hT, rfl, hy⟩
      have ey := hy xs h3
      rw [hv] at ey
      cases ey
      have g := Gr.new (o := .tup [.int (i : Nat), v]) s2 hT
      exact ⟨_, g, .t upd_same (.cons (.i _) (.cons ((rv.mono s1).mono g.gg) .nil))⟩
    cases d with
    | l ds =>
      obtain ⟨a, xs, rfl, h1, h2⟩ := rp.l_inv
      exact ⟨a, xs, rfl, .of (g2.gh _ _ h1), q1 _ _ _ g2 (main a xs ds (.of h1) h2)⟩
    | z ds =>
      obtain ⟨a, xs, rfl, h1, h2⟩ := rp.z_inv
      exact ⟨a, xs, rfl, g2.gh.seq h1, q1 _ _ _ g2 (main a xs ds h1 h2)⟩
    | _ => exact q1.elim
end
end Ly
end

section
set_option maxRecDepth 100000
namespace Ly
open PySem PySem.Spec L2
open PyProof.Rows hiding St
variable [Tb]

section
variable {X : Cx} {c : LC} {a b e tg : Expr} {es : List Expr} {f g h : FE} {ft : FT} {fi : FI} {fa : FA} {u v : FS} {pos : Pos} {body : List Stmt}
def forL (t : Tg) (u : FS) : List D → Env' → Fl
  | [], Γ => .nx Γ
  | d :: ds, Γ => match t.set d Γ with
    | none => .bad
    | some Γ1 => match u Γ1 with
      | .nx Γ' => forL t u ds Γ'
      | .ct Γ' => forL t u ds Γ'
      | .bk Γ' => .nx Γ'
      | .rt r => .rt r
      | .ex e Γ' => .ex e Γ'
      | .bad => .bad
def sFor (fi : FI) (t : Tg) (u : FS) : FS := fun Γ => (fi Γ).fl Γ fun ds => forL t u ds Γ
theorem rs_for (hp : PassesOwn (model X.prog X.w) X.A X.env X.xe) (cy : Cy X c) {iter : Expr} {t : Tg} (hi : PI X tg iter (tI c fi)) (hg : PG X tg (t.tgt c.K)) (hb : PSs X body (tS c u))
    (hs : ∀ x, foldedSetIterable iter X.env x = pure x := by intro _; rfl) : PS X (.For tg iter body [] pos) (tS c (sFor fi t u)) := by
  refine PS.weak (ps_for hp cy.calm hi hg hb hs) ?_
  rintro D σ H ⟨G, Γ, he, q⟩
  unfold sFor at q
  refine ⟨G, Γ, he, ?_⟩
  cases ef : fi Γ with
  | bad => rw [ef] at q; exact q
  | ex x => rw [ef] at q; exact fun G' H' g => q σ G' H' (he.mono g) g.gg
  | ok ds =>
    rw [ef] at q
    intro J G1 H1 g1 w
    refine ⟨fun i m σ' H' => m = ds.length - i ∧ i ≤ ds.length ∧ ∃ Gi Γi, EnvOk c Gi H' σ' Γi ∧ Same G1 Gi ∧ PostS c (forL t u (ds.drop i) Γi) Gi D,
      ⟨ds.length, by simp, Nat.zero_le _, G1, Γ, he.mono g1, Same.refl _, PostS.later g1.gg q⟩, ?_⟩
    rintro i m σ' H' ⟨rfl, hi, Gi, Γi, hei, si, qi⟩
    by_cases hl : i < ds.length
    · obtain ⟨d, hd⟩ : ∃ d, ds[i]? = some d := ⟨ds[i], by simp [hl]⟩
      have hdrop : ds.drop i = d :: ds.drop (i + 1) := by
        rw [List.drop_eq_getElem_cons hl]
        congr 1
        simpa [hl] using hd
      rw [hdrop] at qi
      obtain ⟨go, yl⟩ := w.go Gi H' si hei.gh i d hd
      refine .inr ⟨go, fun σ'' H'' => ∃ Gj Γj, EnvOk c Gj H'' σ'' Γj ∧ Same G1 Gj ∧ PostS c (forL t u (ds.drop (i + 1)) Γj) Gj D,
        fun σ'' H'' ⟨Gj, Γj, hej, sj, qj⟩ => ⟨ds.length - (i + 1), by omega, rfl, hl, Gj, Γj, hej, sj, qj⟩, fun x H2 hy => ?_⟩
      obtain ⟨G2, g2, r2⟩ := yl x H2 hy
      have he2 := hei.mono g2
      unfold forL at qi
      cases et : t.set d Γi with
      | none => rw [et] at qi; exact qi.elim
      | some Γ1 =>
        rw [et] at qi
        refine Tg.ok he2 r2 et fun σ2 he3 _ => ⟨G2, Γ1, he3, ?_⟩
        have s2 : Same G1 G2 := si.trans g2.gg
        have qi : PostS c (match u Γ1 with | .nx Γ' => forL t u (ds.drop (i + 1)) Γ' | .ct Γ' => forL t u (ds.drop (i + 1)) Γ' | .bk Γ' => .nx Γ' | .rt r => .rt r | .ex e Γ' => .ex e Γ' | .bad => .bad) G2 D := PostS.later g2.gg qi
        cases eu : u Γ1 with
        | nx Γ' => rw [eu] at qi; exact fun σ3 G3 H3 he4 s3 => ⟨G3, Γ', he4, s2.trans s3, PostS.later s3 qi⟩
        | ct Γ' => rw [eu] at qi; exact fun σ3 G3 H3 he4 s3 => ⟨G3, Γ', he4, s2.trans s3, PostS.later s3 qi⟩
        | bk Γ' => rw [eu] at qi; exact qi
        | rt r => rw [eu] at qi; exact qi
        | ex x Γ' => rw [eu] at qi; exact qi
        | bad => rw [eu] at qi; exact qi
    · have ei : i = ds.length := by omega
      subst ei
      refine .inl ⟨w.stop H' (si.trans hei.gh) _ (Nat.le_refl _), ?_⟩
      rw [List.drop_length] at qi
      exact qi σ' Gi H' hei (Same.refl _)

def whL (t : FT) (u : FS) : Nat → Env' → Fl
  | 0, _ => .bad
  | n + 1, Γ => (t Γ).fl Γ fun b => if b = true then (match u Γ with
      | .nx Γ' => whL t u n Γ'
      | .ct Γ' => whL t u n Γ'
      | .bk Γ' => .nx Γ'
      | .rt r => .rt r
      | .ex e Γ' => .ex e Γ'
      | .bad => .bad) else .nx Γ
def sWh (n : Nat) (t : FT) (u : FS) : FS := fun Γ => whL t u n Γ
theorem rs_while (hp : PassesOwn (model X.prog X.w) X.A X.env X.xe) (n : Nat) (hc : PT X a (tT c ft)) (hb : PSs X body (tS c u)) : PS X (.While a body [] pos) (tS c (sWh n ft u)) := by
  refine PS.weak (ps_while hp hc hb) ?_
  rintro D σ H ⟨G, Γ, he, q⟩
  refine ⟨fun m σ H => ∃ G Γ, EnvOk c G H σ Γ ∧ PostS c (whL ft u m Γ) G D, ⟨n, G, Γ, he, q⟩, ?_⟩
  rintro m σ H ⟨G, Γ, he, q⟩
  cases m with
  | zero => exact q.elim
  | succ m =>
    unfold whL at q
    refine sT he q fun k G1 H1 _ g1 he1 q1 => ?_
    cases k with
    | true =>
      rw [if_pos rfl] at q1 ⊢
      refine ⟨fun σ' H' => ∃ G' Γ', EnvOk c G' H' σ' Γ' ∧ PostS c (whL ft u m Γ') G' D, fun σ' H' h => ⟨m, Nat.lt_succ_self _, h⟩, G1, Γ, he1, ?_⟩
      cases eu : u Γ with
      | nx Γ' => rw [eu] at q1; exact fun σ3 G3 H3 he4 s3 => ⟨G3, Γ', he4, PostS.later s3 q1⟩
      | ct Γ' => rw [eu] at q1; exact fun σ3 G3 H3 he4 s3 => ⟨G3, Γ', he4, PostS.later s3 q1⟩
      | bk Γ' => rw [eu] at q1; exact q1
      | rt r => rw [eu] at q1; exact q1
      | ex x Γ' => rw [eu] at q1; exact q1
      | bad => rw [eu] at q1; exact q1
    | false =>
      rw [if_neg Bool.false_ne_true] at q1 ⊢
      exact q1 σ G1 H1 he1 (Same.refl _)

def LC.calm (c : LC) : LC := { c with W := fun _ _ _ _ => False }
theorem EnvOk.calm {G H : Hp} {σ : St} {Γ : Env'} (e : EnvOk c G H σ Γ) : EnvOk c.calm G H σ Γ := ⟨e.bh, e.g0, e.gh, e.gf, e.gt, e.tb, e.len, e.at', e.sep⟩
theorem EnvOk.hot {G H : Hp} {σ : St} {Γ : Env'} (e : EnvOk c.calm G H σ Γ) : EnvOk c G H σ Γ := ⟨e.bh, e.g0, e.gh, e.gf, e.gt, e.tb, e.len, e.at', e.sep⟩
def wipeG (Γ : Env') : List Nat → Env'
  | [] => Γ
  | v :: vs => (wipeG Γ vs).set v none
theorem wipeG_length (Γ : Env') : ∀ vs : List Nat, (wipeG Γ vs).length = Γ.length
  | [] => rfl
  | v :: vs => by unfold wipeG; rw [List.length_set, wipeG_length Γ vs]
theorem wipeG_some {Γ : Env'} {i : Nat} {x : Rv} : ∀ {vs : List Nat}, (wipeG Γ vs)[i]? = some (some x) → Γ[i]? = some (some x) ∧ i ∉ vs
  | [], h => ⟨h, by simp⟩
  | v :: vs, h => by
    unfold wipeG at h
    by_cases hi : v = i
    · subst hi
      by_cases hv : v < (wipeG Γ vs).length
      · rw [List.getElem?_set_self hv] at h; cases h
      · rw [List.getElem?_eq_none (by simpa using hv)] at h; cases h
    · rw [List.getElem?_set_ne hi] at h
      obtain ⟨h1, h2⟩ := wipeG_some h
      exact ⟨h1, by simp only [List.mem_cons, not_or]; exact ⟨fun e => hi e.symm, h2⟩⟩
theorem EnvOk.wipe {G H : Hp} {σ : St} {Γ : Env'} (e : EnvOk c G H σ Γ) (vs : List Nat) : EnvOk c G H (L2.wipe σ vs) (wipeG Γ vs) := by
  refine ⟨e.bh, e.g0, e.gh, e.gf, e.gt, e.tb, by rw [wipe_length, wipeG_length]; exact e.len, fun i r hi => ?_, fun i j x y p hi hj si sj => ?_⟩
  · obtain ⟨h1, h2⟩ := wipeG_some hi
    obtain ⟨v, h3, h4, h5⟩ := e.at' i r h1
    exact ⟨v, by rw [wipe_out h2]; exact h3, h4, h5⟩
  · obtain ⟨h1, h2⟩ := wipeG_some hi
    obtain ⟨h3, h4⟩ := wipeG_some hj
    rw [wipe_out h2] at si
    rw [wipe_out h4] at sj
    exact e.sep i j x y p h1 h3 si sj
theorem wipe_in {σ τ : St} (hl : σ.length = τ.length) : ∀ (vs : List Nat), (∀ j, j ∉ vs → σ[j]? = τ[j]?) → L2.wipe σ vs = L2.wipe τ vs := by
  intro vs hj
  apply List.ext_getElem?
  intro j
  by_cases hv : j ∈ vs
  · have at1 : ∀ (ρ : St) (ws : List Nat), j ∈ ws → (L2.wipe ρ ws)[j]? = if j < ρ.length then some none else none := by
      intro ρ ws
      induction ws with
      | nil => intro h; cases h
      | cons v ws ih =>
        intro h
        unfold L2.wipe
        by_cases e : v = j
        · subst e
          by_cases hv : v < ρ.length
          · rw [List.getElem?_set_self (by rw [wipe_length]; exact hv), if_pos hv]
          · rw [List.getElem?_eq_none (by rw [List.length_set, wipe_length]; omega), if_neg hv]
        · rw [List.getElem?_set_ne e]
          rcases List.mem_cons.mp h with z | z
          · exact absurd z.symm e
          · exact ih z
    rw [at1 σ vs hv, at1 τ vs hv, hl]
  · rw [wipe_out hv, wipe_out hv]
    exact hj j hv
def lcStep (t : Tg) (ft : FT) (fe : FE) (Γ0 : Env') (d : D) : Re (List D) := match t.set d Γ0 with
  | none => .bad
  | some Γ1 => (ft Γ1).bind fun b => if b = true then (fe Γ1).bind fun r => (share r).bind fun y => .ok [y] else .ok []
def lcL (t : Tg) (ft : FT) (fe : FE) (Γ0 : Env') : List D → Re (List D)
  | [] => .ok []
  | d :: ds => (lcStep t ft fe Γ0 d).bind fun y => (lcL t ft fe Γ0 ds).bind fun ys => .ok (y ++ ys)
def lcRes : Re (List D) → Re Rv
  | .ok ys => if ys.length ≤ 16777216 then .ok (.fr (.l ys)) else .bad
  | _ => .bad
def eLc (fi : FI) (t : Tg) (ft : FT) (fe : FE) (own : List Nat) : FE := fun Γ => (fi Γ).bind fun ds => lcRes (lcL t ft fe (wipeG Γ own) ds)
def tYesF : FT := fun _ => .ok true
theorem rts_nil : PTs X [] (tT c tYesF) := ⟨fun pins s σ H Q I ⟨G, Γ, he, q⟩ => pts_nil.run pins s σ H Q I (q G H (.refl he.gh))⟩
theorem rts_one (ha : PT X a (tT c ft)) : PTs X [a] (tT c ft) := pts_one ha
theorem lcStep_ok {t : Tg} {fe : FE} {Γ0 : Env'} {d : D} {y : List D} (h : lcStep t ft fe Γ0 d = .ok y) : ∃ Γ1, t.set d Γ0 = some Γ1 ∧ ((ft Γ1 = .ok false ∧ y = []) ∨ ∃ r z, ft Γ1 = .ok true ∧ fe Γ1 = .ok r ∧ share r = .ok z ∧ y = [z]) := by
  unfold lcStep at h
  cases et : t.set d Γ0 with
  | none => rw [et] at h; cases h
  | some Γ1 =>
    rw [et] at h
    refine ⟨Γ1, rfl, ?_⟩
    cases eb : ft Γ1 with
    | bad => simp [eb] at h
    | ex x => simp [eb] at h
    | ok k =>
      cases k with
      | false => simp [eb] at h; exact .inl ⟨rfl, h⟩
      | true =>
        simp only [eb, Re.bind_ok, if_true] at h
        cases er : fe Γ1 with
        | bad => simp [er] at h
        | ex x => simp [er] at h
        | ok r =>
          simp only [er, Re.bind_ok] at h
          cases es : share r with
          | bad => simp [es] at h
          | ex x => simp [es] at h
          | ok z => simp only [es, Re.bind_ok, Re.ok.injEq] at h; exact .inr ⟨r, z, rfl, rfl, es, h.symm⟩
theorem Tg.set_length {t : Tg} {d : D} {Γ Γ' : Env'} (h : t.set d Γ = some Γ') : Γ'.length = Γ.length := by
  have all : ∀ (is : List Nat) (ds : List D) (Γ Γ' : Env'), setN is ds Γ = some Γ' → Γ'.length = Γ.length := by
    intro is
    induction is with
    | nil => intro ds Γ Γ' h; cases ds <;> cases h; rfl
    | cons i is ih =>
      intro ds Γ Γ' h
      cases ds with
      | nil => cases h
      | cons d ds => rw [ih ds _ Γ' h, List.length_set]
  cases t with
  | one i => cases h; exact List.length_set ..
  | tup is =>
    cases d with
    | t ds => exact all is ds Γ Γ' h
    | _ => cases h
theorem lc_main {t : Tg} {fe : FE} {own : List Nat} {σ : St} {H : Hp} {Q : VK} {G : Hp} {Γ : Env'} {ds ys : List D} (hix : ∀ j ∈ t.ix, j ∈ own) (he : EnvOk c G H σ Γ) (hl : lcL t ft fe (wipeG Γ own) ds = .ok ys) (hz : ys.length ≤ 16777216)
    (q : ∀ p G' H', Gr G H G' H' → Non H p → G' p = none → Own c.K G' H' p (.l ys) → Q (.ref p) H') {J : It} {G1 H1 : Hp} (g1 : Gr G H G1 H1) (w : WalkOk c.K G1 J ds) :
    ∀ D, H1 D = none → ∃ W : Nat → Nat → Hp → Prop, (∃ m, W 0 m (upd H1 D (.lst []))) ∧ ∀ i m H, W i m H →
      (J.stop i H ∧ Q (.ref D) H) ∨ (J.go i H ∧ ∃ Nx : Hp → Prop, (∀ H', Nx H' → ∃ m', m' < m ∧ W (i + 1) m' H') ∧ ∀ x H', J.yld i H x H' → t.tgt c.K x (wipe σ own) H' fun σ2 H2 => wipe σ2 own = wipe σ own ∧ tT c.calm ft σ2 H2 fun b H3 =>
        if b = true then tE c.calm fe σ2 H3 fun y H4 => ∃ acc, H4 D = some (.lst acc) ∧ acc.length < sizeLine ∧ Nx (upd H4 D (.lst (acc ++ [y]))) else Nx H3) := by
  intro D hD
  have hD0 : Non H D := Kept.non g1.hh (.of hD)
  have g1D : G1 D = none := g1.gh.free hD
  let Inv : Nat → Hp → Prop := fun i H' => ∃ Gi acc dn rs, Gr G1 H1 Gi H' ∧ Gi D = none ∧ H' D = some (.lst acc) ∧ Reps c.K Gi acc dn ∧ lcL t ft fe (wipeG Γ own) (ds.drop i) = .ok rs ∧ dn ++ rs = ys
  refine ⟨fun i m H' => m = ds.length - i ∧ i ≤ ds.length ∧ Inv i H', ⟨ds.length, by simp, Nat.zero_le _, G1, [], [], ys, .own g1.gh hD, g1D, upd_same, .nil, hl, rfl⟩, ?_⟩
  rintro i m H' ⟨rfl, hi, Gi, acc, dn, rs, gi, gD, aD, ra, hr, hy⟩
  by_cases hlt : i < ds.length
  · obtain ⟨d, hd⟩ : ∃ d, ds[i]? = some d := ⟨ds[i], by simp [hlt]⟩
    have hdrop : ds.drop i = d :: ds.drop (i + 1) := by
      rw [List.drop_eq_getElem_cons hlt]
      congr 1
      simpa [hlt] using hd
    rw [hdrop] at hr
    obtain ⟨go, yl⟩ := w.go Gi H' gi.gg gi.gh i d hd
    refine .inr ⟨go, Inv (i + 1), fun H'' hn => ⟨ds.length - (i + 1), by omega, rfl, hlt, hn⟩, fun x H2 hyl => ?_⟩
    obtain ⟨G2, g2, r2⟩ := yl x H2 hyl
    unfold lcL at hr
    cases es : lcStep t ft fe (wipeG Γ own) d with
    | bad => simp [es] at hr
    | ex x => simp [es] at hr
    | ok y =>
      simp only [es, Re.bind_ok] at hr
      cases er : lcL t ft fe (wipeG Γ own) (ds.drop (i + 1)) with
      | bad => simp [er] at hr
      | ex x => simp [er] at hr
      | ok rs' =>
        simp only [er, Re.bind_ok, Re.ok.injEq] at hr
        obtain ⟨Γ1, et, hcase⟩ := lcStep_ok es
        have heW : EnvOk c G1 H1 (wipe σ own) (wipeG Γ own) := (he.mono g1).wipe own
        have he2 := (heW.mono gi).mono g2
        have D2 : G2 D = none := g2.keepNone gD (live_of aD)
        have a2 := g2.hh _ _ aD (fun _ z => by cases z)
        have ra2 := ra.mono g2.gg
        refine Tg.ok he2 r2 et fun σ2 he3 hj => ⟨?_, G2, Γ1, he3.calm, ?_⟩
        · have l2 : σ2.length = (wipe σ own).length := by rw [he3.len, Tg.set_length et, he2.len]
          have e1 : wipe σ2 own = wipe (wipe σ own) own := wipe_in l2 own fun j hn => hj j fun z => hn (hix j z)
          have e2 : wipe (wipe σ own) own = wipe σ own := wipe_in (by rw [wipe_length]) own fun j hn => wipe_out hn
          rw [e1, e2]
        · rcases hcase with ⟨hf, rfl⟩ | ⟨r, z, hf, hfe, hsh, rfl⟩
          · rw [hf]
            intro G3 H3 g3
            rw [if_neg Bool.false_ne_true]
            refine ⟨G3, acc, dn, rs', gi.trans (g2.trans g3), g3.keepNone D2 (live_of a2), g3.hh _ _ a2 (fun _ z => by cases z), ra2.mono g3.gg, er, ?_⟩
            rw [← hy, ← hr]; rfl
          · rw [hf]
            intro G3 H3 g3
            rw [if_pos rfl]
            refine ⟨G3, Γ1, he3.calm.mono g3, ?_⟩
            rw [hfe]
            intro v G4 H4 g4 v4 fr4
            obtain ⟨G5, g5, s5, rp⟩ := RV.share (c := c) g4 v4 fr4 hsh
            have a3 := g3.hh _ _ a2 (fun _ z => by cases z)
            have a5 := g5.hh _ _ a3 (fun _ z => by cases z)
            have D5 : G5 D = none := g5.keepNone (g3.keepNone D2 (live_of a2)) (live_of a3)
            have g0 := gi.trans (g2.trans (g3.trans g5))
            refine ⟨acc, a5, ?_, G5, acc ++ [v], dn ++ [z], rs', g0.put (.of hD) D5 a5 ⟨fun _ z => (by cases z), fun _ z => (by cases z)⟩, D5, upd_same, ((ra2.mono g3.gg).mono g5.gg).append (.cons rp .nil), er, ?_⟩
            · rw [ra.length, sizeLine_eq]
              have := congrArg List.length hy
              rw [← hr] at this
              simp at this
              omega
            · rw [← hy, ← hr]; simp
  · have ei : i = ds.length := by omega
    subst ei
    rw [List.drop_length] at hr
    cases hr
    rw [List.append_nil] at hy
    subst hy
    exact .inl ⟨w.stop H' (gi.gg.trans gi.gh) _ (Nat.le_refl _), q D Gi H' (g1.trans gi) hD0 gD (.l aD ra)⟩
theorem takesN0 {X : Cx} : L2N.Takes X (fun _ _ _ _ => False) := fun _ _ x => by
  obtain ⟨_, _, _, _, _, _, _, _, _, _, _, _, _, _, _, _, z⟩ := x
  exact z.elim
theorem Cy.blk (cy : Cy X c) (s : Shared) (H : Hp) (scope : Scope) (ce : Env) (fp : List Addr) : Cy (X.blk s H scope ce fp) c.calm :=
  ⟨cy.K, cy.mg, takesN0, cy.calm, cy.nd, cy.un⟩
theorem re_lc (cy : Cy X c) {elt iter : Expr} {ifs : List Expr} {scope : Scope} {own : List (Str × Nat)} {t : Tg} {fe : FE} (hi : PI X tg iter (tI c fi)) (ok : BlkOk X.N X.env.scope scope own) (hix : ∀ j ∈ t.ix, j ∈ own.map (·.2))
    (hg : ∀ (s : Shared) (H : Hp) (C : Addr) (cl : List (Str × Addr)) (fp : List Addr), Cy (X.blk s H scope (compEnvC scope cl C X.env) fp) c.calm → PG (X.blk s H scope (compEnvC scope cl C X.env) fp) tg (t.tgt c.K))
    (ht : ∀ (s : Shared) (H : Hp) (C : Addr) (cl : List (Str × Addr)) (fp : List Addr), Cy (X.blk s H scope (compEnvC scope cl C X.env) fp) c.calm → PTs (X.blk s H scope (compEnvC scope cl C X.env) fp) ifs (tT c.calm ft))
    (hel : ∀ (s : Shared) (H : Hp) (C : Addr) (cl : List (Str × Addr)) (fp : List Addr), Cy (X.blk s H scope (compEnvC scope cl C X.env) fp) c.calm → PE (X.blk s H scope (compEnvC scope cl C X.env) fp) elt (tE c.calm fe)) (hs : ∀ x, foldedSetIterable iter X.env x = pure x := by intro _; rfl) :
    PE X (.ListComp elt [⟨tg, iter, ifs, 0⟩] scope pos) (tE c (eLc fi t ft fe (own.map (·.2)))) := by
  refine PE.weak (pe_lc cy.calm cy.nd hi ok (fun s H C cl fp => hg s H C cl fp (cy.blk ..)) (fun s H C cl fp => ht s H C cl fp (cy.blk ..)) (fun s H C cl fp => hel s H C cl fp (cy.blk ..)) hs) ?_
  rintro σ H Q ⟨G, Γ, he, q⟩
  unfold eLc at q
  refine ⟨G, Γ, he, ?_⟩
  cases ef : fi Γ with
  | bad => rw [ef] at q; exact q
  | ex x => rw [ef] at q; exact q
  | ok ds =>
    rw [ef] at q
    simp only [Re.bind_ok] at q
    intro J G1 H1 g1 w
    cases el : lcL t ft fe (wipeG Γ (own.map (·.2))) ds with
    | bad => rw [el] at q; exact q.elim
    | ex x => rw [el] at q; exact q.elim
    | ok ys =>
      rw [el] at q
      unfold lcRes at q
      dsimp only at q
      split at q
      · rename_i hz
        exact lc_main hix he el hz (fun p G' H' g hp gp o => q (.ref p) G' H' g ⟨p, rfl, Kept.non he.bh hp, gp, o⟩ ⟨p, rfl, hp⟩) g1 w
      · exact q.elim
theorem rs_setLc (cy : Cy X c) {i : Nat} {y : Str} {py : Pos} {elt iter : Expr} {ifs : List Expr} {scope : Scope} {own : List (Str × Nat)} {spos : Pos} {t : Tg} {fe : FE} (hy : X.N[i]? = some y) (hyl : X.env.scope.names.lookup y = some .local)
    (hsw : swapsWith (.ListComp elt [⟨tg, iter, ifs, 0⟩] scope pos) (some (.Name y py)) spos.line X.env = pure true) (hi : PI X tg iter (tI c fi)) (ok : BlkOk X.N X.env.scope scope own) (hix : ∀ j ∈ t.ix, j ∈ own.map (·.2))
    (hg : ∀ (s : Shared) (H : Hp) (C : Addr) (cl : List (Str × Addr)) (fp : List Addr), Cy (X.blk s H scope (compEnvC scope cl C X.env) fp) c.calm → PG (X.blk s H scope (compEnvC scope cl C X.env) fp) tg (t.tgt c.K))
    (ht : ∀ (s : Shared) (H : Hp) (C : Addr) (cl : List (Str × Addr)) (fp : List Addr), Cy (X.blk s H scope (compEnvC scope cl C X.env) fp) c.calm → PTs (X.blk s H scope (compEnvC scope cl C X.env) fp) ifs (tT c.calm ft))
    (hel : ∀ (s : Shared) (H : Hp) (C : Addr) (cl : List (Str × Addr)) (fp : List Addr), Cy (X.blk s H scope (compEnvC scope cl C X.env) fp) c.calm → PE (X.blk s H scope (compEnvC scope cl C X.env) fp) elt (tE c.calm fe)) (hs : ∀ x, foldedSetIterable iter X.env x = pure x := by intro _; rfl) :
    PS X (.Assign [.Name y py] (.ListComp elt [⟨tg, iter, ifs, 0⟩] scope pos) spos) (tS c (sSet i (eLc fi t ft fe (own.map (·.2))))) := by
  refine PS.weak (ps_setLc cy.calm cy.nd hy hyl hsw hi ok (fun s H C cl fp => hg s H C cl fp (cy.blk ..)) (fun s H C cl fp => ht s H C cl fp (cy.blk ..)) (fun s H C cl fp => hel s H C cl fp (cy.blk ..)) hs) ?_
  rintro D σ H ⟨G, Γ, he, q⟩
  unfold sSet eLc at q
  refine ⟨G, Γ, he, ?_⟩
  cases ef : fi Γ with
  | bad => rw [ef] at q; exact q
  | ex x => rw [ef] at q; exact fun G' H' g => q σ G' H' (he.mono g) g.gg
  | ok ds =>
    rw [ef] at q
    simp only [Re.bind_ok] at q
    intro J G1 H1 g1 w
    cases el : lcL t ft fe (wipeG Γ (own.map (·.2))) ds with
    | bad => rw [el] at q; exact q.elim
    | ex x => rw [el] at q; exact q.elim
    | ok ys =>
      rw [el] at q
      unfold lcRes at q
      dsimp only at q
      split at q
      · rename_i hz
        exact lc_main (Q := fun x H1 => gName i x σ H1 D.nx) hix he el hz (fun p G' H' g hp gp o => set_env (r := .fr (.l ys)) he g ⟨p, rfl, Kept.non he.bh hp, gp, o⟩ ⟨p, rfl, hp⟩ q) g1 w
      · exact q.elim

def sRaise (x : Str) : FS := fun Γ => .ex ⟨x, none⟩ Γ
structure XOk (K : PySem.W.Frag) (mg : Str → Option Value) (x : Str) : Prop where
  ex : ∃ C : Addr, mg x = some (.ref C) ∧ PySem.W.excIn K C [.type "ValueError", .type "Exception", .type "BaseException", .type "object"] "ValueError.__new__" = true ∧ PySem.W.keepIn K (.ref C) = true ∧
    PySem.W.subIn K (.ref C) (.type "BaseException") = some true ∧ PySem.W.typeIn K (.ref C) = some (.type "type")
theorem rs_raise (cy : Cy X c) {x m : Str} {j : Nat} {p p2 pos2 : Pos} (T : XOk X.K X.mg x) (hg : Gl X x) (hdb : (x == ("__debug__" : Str)) = false := by decide) :
    PS X (.Raise (some (.Call (.Name x p) [.Constant (.str m) j p2] [] pos)) none pos2) (tS c (sRaise x)) := by
  obtain ⟨C, h1, h2, h3, h4, h5⟩ := T.ex
  refine PS.weak (L2N.ps_raise cy.calm cy.tk (L2N.pmk_own PySem.F.excBase_ValueError h2 h1 h3 (raises_own h4 h5) hg hdb)) ?_
  rintro D σ H ⟨G, Γ, he, q⟩
  exact q σ G H he (Same.refl _) C none (by rw [← cy.mg]; exact h1) rfl
def runF (n m : Nat) (body : FS) (ds : List D) : Re Rv := if ds.length = n then (match body (ds.map (fun d => some (.sh d)) ++ List.replicate (m - n) none) with
  | .nx _ => .ok (.sh .n)
  | .rt (.sh d) => .ok (.sh d)
  | .rt (.fr d) => .ok (.fr d)
  | .ex e _ => .ex e
  | _ => .bad) else .bad
end
section
variable {P : Program} {w : World} {K : PySem.W.Frag} {mg : Str → Option Value} {base : Heap}
abbrev dLc (K : PySem.W.Frag) (mg : Str → Option Value) (H G : Hp) (E : XK) : LC := ⟨K, mg, H, G, fun cls d _ H' => E cls d H'⟩
theorem start_env {G H : Hp} {vs : List V} {ds : List D} {N : List Str} {E : XK} (ok : Ok0 G H) (r : Reps K G vs ds) : EnvOk (dLc K mg H G E) G H (start N vs) (ds.map (fun d => some (.sh d)) ++ List.replicate (N.length - ds.length) none) := by
  have hl := r.length
  refine ⟨LamX.ExtN.refl _, Same.refl _, ok.gh, fun a o e _ => e, ok.gt, ok.tb, by simp [L2.start, hl], fun i rv hi => ?_, fun i j x y p hi hj si sj => ?_⟩
  · by_cases hlt : i < ds.length
    · rw [List.getElem?_append_left (by simpa using hlt)] at hi
      rw [List.getElem?_map] at hi
      cases e : ds[i]? with
      | none => rw [e] at hi; cases hi
      | some d =>
        rw [e] at hi
        cases hi
        obtain ⟨v, hv, rv⟩ := r.get' e
        refine ⟨v, ?_, rv, fun _ z => by cases z⟩
        unfold L2.start
        rw [List.getElem?_append_left (by simpa [hl] using hlt), List.getElem?_map, hv]
        rfl
    · rw [List.getElem?_append_right (by simpa using hlt)] at hi
      rw [List.getElem?_replicate] at hi
      split at hi <;> cases hi
  · have no : ∀ (i : Nat) (x : D), (ds.map (fun d => some (Rv.sh d)) ++ List.replicate (N.length - ds.length) none)[i]? = some (some (.fr x)) → False := by
      intro i x hi
      by_cases hlt : i < ds.length
      · rw [List.getElem?_append_left (by simpa using hlt)] at hi
        rw [List.getElem?_map] at hi
        cases e : ds[i]? with
        | none => rw [e] at hi; cases hi
        | some d => rw [e] at hi; cases hi
      · rw [List.getElem?_append_right (by simpa using hlt)] at hi
        rw [List.getElem?_replicate] at hi
        split at hi <;> cases hi
    exact (no i x hi).elim
theorem fun_okN {x qual : Str} {st : Stmt} {f : Addr} {fd : FuncData} {N ps : List Str} {k : Nat} {sp : Sp} (F : Fun K x qual st f fd) (S : FnScope N ps (defScope st)) (hl : ∀ vs H Q E, sp vs H Q E → vs.length = ps.length)
    (hb : ∀ (cd : Value) (A : Around) (outer : List Env) (s : Shared) (H : Hp) (vs : List V) (Q : VK) (E : XK), Room k (A.deeper (envOfC qual (defScope st) s.heap.objs.size f cd)) → sp vs H Q E →
      ∃ t, PSs (cxOf (L2N.CX P w) P w K mg base N qual (defScope st) f cd A outer s H E) (defBody st) t ∧ t { nx := fun _ H' => Q .non H', rt := Q } (start N vs) H) : FnOk P w K mg base (L2N.CX P w) (k + 1) f fd ps sp := by
  obtain ⟨_, _, _, _, _, _, cd, _, _, rfl, h1, h2⟩ := F.ex
  exact fn_of h1 h2 S hl fun A o s H vs Q E r q => hb cd A o s H vs Q E r q
theorem def_fn {x qual : Str} {st : Stmt} {f : Addr} {fd : FuncData} {N ps : List Str} {k n m : Nat} {body : FS} (F : Fun K x qual st f fd) (S : FnScope N ps (defScope st))
    (hn : ps.length = n) (hN : N.length = m)
    (h : ∀ (cdv : Value) (A : Around) (outer : List Env) (s : Shared) (H G : Hp) (E : XK), Room k (A.deeper (envOfC qual (defScope st) s.heap.objs.size f cdv)) →
      Cy (cxOf (L2N.CX P w) P w K mg base N qual (defScope st) f cdv A outer s H E) (dLc K mg H G E) →
      PassesOwn (model P w) (A.deeper (envOfC qual (defScope st) s.heap.objs.size f cdv)) (envOfC qual (defScope st) s.heap.objs.size f cdv) (cxOf (L2N.CX P w) P w K mg base N qual (defScope st) f cdv A outer s H E).xe →
      PSs (cxOf (L2N.CX P w) P w K mg base N qual (defScope st) f cdv A outer s H E) (defBody st) (tS (dLc K mg H G E) body)) : FnOk P w K mg base (L2N.CX P w) (k + 1) f fd ps (spF K mg n (runF n m body)) := by
  refine fun_okN F S (fun vs H Q E hs => ?_) (fun cdv A outer s H vs Q E hr hs => ?_)
  · obtain ⟨G, ds, hl, gh, r, _⟩ := hs
    rw [r.length, hl, hn]
  · obtain ⟨G, ds, hl, gh, r, q⟩ := hs
    have cy : Cy (cxOf (L2N.CX P w) P w K mg base N qual (defScope st) f cdv A outer s H E) (dLc K mg H G E) := ⟨rfl, rfl, L2N.takes_of rfl rfl rfl rfl, rfl, S.nd, hr.units⟩
    refine ⟨_, h cdv A outer s H G E hr cy (passes_of (X := cxOf (L2N.CX P w) P w K mg base N qual (defScope st) f cdv A outer s H E) rfl), G, _, start_env gh r, ?_⟩
    have gr : ∀ {G' H' : Hp}, EndOk (dLc K mg H G E) G' H' → Gr G H G' H' := fun e => ⟨e.bh, e.g0, e.gh, e.gf, fun _ => e.gt, fun _ => e.tb⟩
    unfold runF at q
    rw [if_pos hl] at q
    rw [hN, hl]
    cases eb : body (ds.map (fun d => some (.sh d)) ++ List.replicate (m - n) none) with
    | nx Γ' => rw [eb] at q; exact fun σ' G' H' he s => q .non G' H' (gr he.end) .n
    | rt rv =>
      rw [eb] at q
      cases rv with
      | sh d => exact fun v G' H' he s hv _ => q v G' H' (gr he) hv
      | fr d => exact fun v G' H' he s ⟨p, e, bp, gp, o⟩ _ => by subst e; exact q p G' H' (gr he) bp gp o
      | bo d => exact fun v G' H' he s hv hn => absurd rfl (hn d)
    | ex e Γ' => rw [eb] at q; exact fun σ' G' H' he s C d hC hd => q G' H' (gr he.end) C d hC hd
    | bk Γ' => rw [eb] at q; exact q.elim
    | ct Γ' => rw [eb] at q; exact q.elim
    | bad => rw [eb] at q; exact q.elim
theorem fn_bad {f : Addr} {fd : FuncData} {ps : List Str} {n : Nat} {j : Nat} : FnOk P w K mg base (L2N.CX P w) j f fd ps (spF K mg n fun _ => .bad) :=
  ⟨fun vs H Q E ⟨_, _, _, _, _, h⟩ => h.elim, fun A outer s H args us vs Q E _ _ _ _ ⟨_, _, _, _, _, h⟩ => h.elim⟩
end
end Ly
end

section
set_option maxRecDepth 100000
namespace Ly
open PySem PySem.Spec L2
open PyProof.Rows hiding St
variable [Tb]

section
variable {X : Cx} {c : LC} {a b e : Expr} {es : List Expr} {f g h : FE} {ft : FT} {fi : FI} {fa : FA} {u v : FS} {pos : Pos} {body : List Stmt}
def D.ty? : D → Option String
  | .n => some "NoneType" | .b _ => some "bool" | .i _ => some "int" | .s _ => some "str"
  | .l _ => some "list" | .z _ => some "list" | .t _ => some "tuple" | .zt _ => some "tuple" | _ => none
theorem Rep.tyx {G : Hp} {v : V} {d : D} {T : String} (h : Rep c.K G v d) (e : d.ty? = some T) : TyX c.K G v (.type T) := by
  cases h with
  | n => cases e; exact .base .non
  | b x => cases e; exact .base (.bl x)
  | i x => cases e; exact .base (.int x)
  | s x => cases e; exact .base (.str x)
  | l h1 h2 => cases e; exact .base (.lst h1)
  | z h1 h2 =>
    cases e
    rcases h1 with (h1 | ⟨o, h1⟩) | ⟨o, its, n, h1, h3, _⟩
    · exact .base (.lst h1)
    · exact .base (.frz h1)
    · exact .kList h1 h3
  | t h1 h2 => cases e; exact .base (.tup h1)
  | zt h1 h2 =>
    cases e
    rcases h1 with (h1 | ⟨o, h1⟩) | ⟨o, its, n, h1, h3, _⟩
    · exact .base (.tup h1)
    · exact .fTuple h1
    · exact .kTuple h1 h3
  | o _ => cases e
  | dk _ _ _ => cases e
  | dt _ _ _ => cases e
theorem TyX.up {K : PySem.W.Frag} {G H : Hp} {v : V} {T : String} (gh : Same G H) (h : TyX K G v (.type T)) : TyX K H v (.type T) := by
  cases h with
  | base b =>
    cases b with
    | non => exact .base .non
    | bl x => exact .base (.bl x)
    | int x => exact .base (.int x)
    | str x => exact .base (.str x)
    | flt x => exact .base (.flt x)
    | lst e => exact .base (.lst (gh _ _ e))
    | frz e => exact .base (.frz (gh _ _ e))
    | tup e => exact .base (.tup (gh _ _ e))
    | dK e => exact .base (.dK (gh _ _ e))
    | dT e => exact .base (.dT (gh _ _ e))
  | byt b => exact .byt b
  | set e => exact .set (gh _ _ e)
  | kList e k => exact .kList e k
  | kTuple e k => exact .kTuple e k
  | kDict e k => exact .kDict e k
  | fTuple e => exact .fTuple (gh _ _ e)
  | fDict e => exact .fDict (gh _ _ e)
theorem RV.tyx {G H : Hp} {v : V} {r : Rv} {T : String} (gh : Same G H) (h : RV c G H v r) (e : r.d.ty? = some T) : TyX c.K H v (.type T) := by
  cases r with
  | sh d => exact TyX.up gh (Rep.tyx h e)
  | fr d =>
    obtain ⟨p, rfl, _, _, o⟩ := h
    cases o with
    | l h1 h2 => cases e; exact .base (.lst h1)
    | dk h1 _ _ => cases e
    | dt h1 _ _ => cases e
  | bo d =>
    obtain ⟨p, rfl, _, _, o⟩ := h
    cases o with
    | l h1 h2 => cases e; exact .base (.lst h1)
    | dk h1 _ _ => cases e
    | dt h1 _ _ => cases e
def isiB (T : String) : String → Option Bool := fun t => kitB t T
def kIsi (T : String) : Rv → Re Rv := fun r => match r.d.ty? with
  | some t => (match isiB T t with | some k => okb k | none => .bad)
  | none => .bad
theorem re_isi (cy : Cy X c) {T : String} {x : Str} {p p2 : Pos} (hg : Gl X "isinstance") (hm : X.mg "isinstance" = none) (hgT : Gl X x) (hmT : X.mg x = none) (hvT : bootBuiltins x = some (.type T)) (ha : PE X a (tE c f))
    (hn : x ≠ "__name__" := by decide) (hd : (x == ("__debug__" : Str)) = false := by decide)
    (hs : starEach [a, .Name x p2] X.env = (false, eval a X.env) :: starEach [.Name x p2] X.env := by rfl) (hs2 : starEach [.Name x p2] X.env = [(false, eval (.Name x p2) X.env)] := by rfl) (hpl : (backTo pos (starEach [.Name x p2] X.env)).any (·.1) = false := by rfl) :
    PE X (.Call (.Name "isinstance" p) [a, .Name x p2] [] pos) (tE c (e1 (kIsi T) f)) := by
  refine PE.weak (pe_callB call_isi hg hm (by decide +kernel) (pa_cons ha (pa_cons (pe_bltn (v := .ty T) hgT hmT hvT rfl hn hd) pa_nil hs2) hs) (by decide) (by decide) hs hpl) ?_
  rintro σ H Q ⟨G, Γ, he, q⟩
  refine eE he q fun r v G1 H1 eq1 g1 v1 fr he1 q1 => ?_
  unfold kIsi at q1
  split at q1
  · rename_i t et
    split at q1
    · rename_i k ek
      rw [cy.K]
      exact ⟨v, .ty T, .type t, .type T, k, rfl, .ty T, v1.tyx he1.gh et, kit_ty ek, post_sh he1.gh q1 (.b _)⟩
    · exact q1.elim
  · exact q1.elim
def kIsi2 (T U : String) : Rv → Re Rv := fun r => match r.d.ty? with
  | some t => (match isiB T t, isiB U t with | some k, some j => okb (k || j) | _, _ => .bad)
  | none => .bad
theorem re_isi2 (cy : Cy X c) {T U : String} {x y : Str} {kk : Nat} {p p2 p3 pt : Pos} (hg : Gl X "isinstance") (hm : X.mg "isinstance" = none) (hgT : Gl X x) (hmT : X.mg x = none) (hvT : bootBuiltins x = some (.type T)) (hgU : Gl X y) (hmU : X.mg y = none) (hvU : bootBuiltins y = some (.type U)) (ha : PE X a (tE c f))
    (hn : x ≠ "__name__" := by decide) (hd : (x == ("__debug__" : Str)) = false := by decide) (hn' : y ≠ "__name__" := by decide) (hd' : (y == ("__debug__" : Str)) = false := by decide)
    (hs : starEach [a, .Tuple [.Name x p2, .Name y p3] kk pt] X.env = (false, eval a X.env) :: starEach [.Tuple [.Name x p2, .Name y p3] kk pt] X.env := by rfl)
    (hs2 : starEach [.Tuple [.Name x p2, .Name y p3] kk pt] X.env = [(false, eval (.Tuple [.Name x p2, .Name y p3] kk pt) X.env)] := by rfl)
    (hs3 : starEach [.Name x p2, .Name y p3] X.env = (false, eval (.Name x p2) X.env) :: starEach [.Name y p3] X.env := by rfl) (hs4 : starEach [.Name y p3] X.env = [(false, eval (.Name y p3) X.env)] := by rfl)
    (hpl : (backTo pos (starEach [.Tuple [.Name x p2, .Name y p3] kk pt] X.env)).any (·.1) = false := by rfl) :
    PE X (.Call (.Name "isinstance" p) [a, .Tuple [.Name x p2, .Name y p3] kk pt] [] pos) (tE c (e1 (kIsi2 T U) f)) := by
  refine PE.weak (pe_callB call_isiT hg hm (by decide +kernel) (pa_cons ha (pa_cons (pe_tup (pa_cons (pe_bltn (v := .ty T) hgT hmT hvT rfl hn hd) (pa_cons (pe_bltn (v := .ty U) hgU hmU hvU rfl hn' hd') pa_nil hs4) hs3)) pa_nil hs2) hs) (by decide) (by decide) hs hpl) ?_
  rintro σ H Q ⟨G, Γ, he, q⟩
  refine eE he q fun r v G1 H1 eq1 g1 v1 fr he1 q1 => ?_
  unfold kIsi2 at q1
  split at q1
  · rename_i t et
    split at q1
    · rename_i k j ek ej
      rw [cy.K]
      refine ⟨by show 2 ≤ sizeLine; decide, fun tp hp => ?_⟩
      have g2 := Gr.new (o := .tup [.ty T, .ty U]) he1.gh hp
      have v2 := v1.mono g2
      refine ⟨v, tp, [.ty T, .ty U], .type t, [.type T, .type U], k || j, rfl, upd_same, .cons (.ty T) (.cons (.ty U) .nil), v2.tyx g2.gh et, ?_, ?_⟩
      · refine kitAny_cons (kit_ty ek) (fun e => ?_) (fun e => by rw [e]; rfl)
        refine kitAny_cons (kit_ty ej) (fun e' => ?_) (fun e' => by rw [e']; exact Bool.or_true _)
        rw [e, e']; exact kitAny_nil
      · exact q1 _ _ _ g2 (Rep.b _) True.intro
    · exact q1.elim
  · exact q1.elim

def D.bools : List D → Option (List Bool)
  | [] => some []
  | .b x :: r => (D.bools r).map (x :: ·)
  | _ :: _ => none
def D.ints : List D → Option (List Int)
  | [] => some []
  | .i x :: r => (D.ints r).map (x :: ·)
  | _ :: _ => none
theorem D.ints_eq : ∀ {ds : List D} {zs : List Int}, D.ints ds = some zs → ds = zs.map D.i
  | [], _, h => by cases h; rfl
  | .i x :: r, zs, h => by
    unfold D.ints at h
    cases e : D.ints r with
    | none => rw [e] at h; cases h
    | some ws => rw [e] at h; cases h; rw [List.map_cons, ← D.ints_eq e]
  | .n :: _, _, h => by cases h
  | .b _ :: _, _, h => by cases h
  | .s _ :: _, _, h => by cases h
  | .l _ :: _, _, h => by cases h
  | .t _ :: _, _, h => by cases h
  | .z _ :: _, _, h => by cases h
  | .zt _ :: _, _, h => by cases h
  | .o _ :: _, _, h => by cases h
  | .dk _ _ :: _, _, h => by cases h
  | .dt _ _ :: _, _, h => by cases h
theorem D.ints_map (zs : List Int) : D.ints (zs.map D.i) = some zs := by
  induction zs with
  | nil => rfl
  | cons z zs ih => rw [List.map_cons, D.ints, ih]; rfl
theorem D.bools_eq : ∀ {ds : List D} {zs : List Bool}, D.bools ds = some zs → ds = zs.map D.b
  | [], _, h => by cases h; rfl
  | .b x :: r, zs, h => by
    unfold D.bools at h
    cases e : D.bools r with
    | none => rw [e] at h; cases h
    | some ws => rw [e] at h; cases h; rw [List.map_cons, ← D.bools_eq e]
  | .n :: _, _, h => by cases h
  | .i _ :: _, _, h => by cases h
  | .s _ :: _, _, h => by cases h
  | .l _ :: _, _, h => by cases h
  | .t _ :: _, _, h => by cases h
  | .z _ :: _, _, h => by cases h
  | .zt _ :: _, _, h => by cases h
  | .o _ :: _, _, h => by cases h
  | .dk _ _ :: _, _, h => by cases h
  | .dt _ _ :: _, _, h => by cases h
theorem D.bools_map (zs : List Bool) : D.bools (zs.map D.b) = some zs := by
  induction zs with
  | nil => rfl
  | cons z zs ih => rw [List.map_cons, D.bools, ih]; rfl
theorem Reps.bls {K : PySem.W.Frag} {G : Hp} : ∀ {vs : List V} {zs : List Bool}, Reps K G vs (zs.map D.b) → vs = zs.map V.bl
  | _, [], .nil => rfl
  | _, z :: zs, .cons h r => by rw [h.bl_inv, List.map_cons, Reps.bls r]
def kAll : Rv → Re Rv := fun r => match r.d.seq? with
  | some ds => (match D.bools ds with | some bs => okb (bs.all id) | none => .bad) | none => .bad
def kAny : Rv → Re Rv := fun r => match r.d.seq? with
  | some ds => (match D.bools ds with | some bs => okb (bs.any id) | none => .bad) | none => .bad
theorem re_all (cy : Cy X c) {p : Pos} (hg : Gl X "all") (hm : X.mg "all" = none) (ha : PE X a (tE c f)) (hs : starEach [a] X.env = [(false, eval a X.env)] := by rfl) : PE X (.Call (.Name "all" p) [a] [] pos) (tE c (e1 kAll f)) := by
  refine re_b1 (r := rAll c.K) (by rw [← cy.K]; exact cr_all cy.calm) ?_ hg hm (by decide +kernel) ha (by decide) (by decide) hs
  intro σ G H x rx Q gh bh hx q
  unfold kAll at q
  split at q
  · rename_i ds e
    split at q
    · rename_i bs eb
      obtain ⟨p, xs, rfl, e2, e3⟩ := hx.sql gh e
      rw [D.bools_eq eb] at e3
      rw [e3.bls] at e2
      exact ⟨p, bs, rfl, e2, post_sh gh q (.b _)⟩
    · exact q.elim
  · exact q.elim
theorem re_any (cy : Cy X c) {p : Pos} (hg : Gl X "any") (hm : X.mg "any" = none) (ha : PE X a (tE c f)) (hs : starEach [a] X.env = [(false, eval a X.env)] := by rfl) : PE X (.Call (.Name "any" p) [a] [] pos) (tE c (e1 kAny f)) := by
  refine re_b1 (r := rAny c.K) (by rw [← cy.K]; exact cr_any cy.calm) ?_ hg hm (by decide +kernel) ha (by decide) (by decide) hs
  intro σ G H x rx Q gh bh hx q
  unfold kAny at q
  split at q
  · rename_i ds e
    split at q
    · rename_i bs eb
      obtain ⟨p, xs, rfl, e2, e3⟩ := hx.sql gh e
      rw [D.bools_eq eb] at e3
      rw [e3.bls] at e2
      exact ⟨p, bs, rfl, e2, post_sh gh q (.b _)⟩
    · exact q.elim
  · exact q.elim
def kSum : Rv → Re Rv := fun r => match r.d.seq? with
  | some ds => (match D.ints ds with | some zs => oki zs.sum | none => .bad) | none => .bad
theorem re_sum (cy : Cy X c) {p : Pos} (hg : Gl X "sum") (hm : X.mg "sum" = none) (ha : PE X a (tE c f)) (hs : starEach [a] X.env = [(false, eval a X.env)] := by rfl) : PE X (.Call (.Name "sum" p) [a] [] pos) (tE c (e1 kSum f)) := by
  refine re_b1 (r := rSum c.K) (by rw [← cy.K]; exact cr_sum cy.calm) ?_ hg hm (by decide +kernel) ha (by decide) (by decide) hs
  intro σ G H x rx Q gh bh hx q
  unfold kSum at q
  split at q
  · rename_i ds e
    split at q
    · rename_i bs eb
      obtain ⟨p, xs, rfl, e2, e3⟩ := hx.sql gh e
      rw [D.ints_eq eb] at e3
      rw [e3.ints] at e2
      exact ⟨p, bs, rfl, e2, post_sh gh q (.i _)⟩
    · exact q.elim
  · exact q.elim
def maxI : List Int → Int
  | [] => 0 | z :: zs => zs.foldl max z
def minI : List Int → Int
  | [] => 0 | z :: zs => zs.foldl min z
theorem foldl_max_le (zs : List Int) : ∀ z : Int, z ≤ zs.foldl max z ∧ (∀ y ∈ zs, y ≤ zs.foldl max z) ∧ (zs.foldl max z = z ∨ zs.foldl max z ∈ zs) := by
  induction zs with
  | nil => intro z; exact ⟨Int.le_refl _, by simp, .inl rfl⟩
  | cons y ys ih =>
    intro z
    obtain ⟨h1, h2, h3⟩ := ih (max z y)
    refine ⟨by rw [List.foldl_cons]; omega, fun w hw => ?_, ?_⟩
    · rw [List.foldl_cons]
      rcases List.mem_cons.mp hw with rfl | hw
      · omega
      · exact h2 w hw
    · rw [List.foldl_cons]
      rcases h3 with h3 | h3
      · rcases Int.le_total z y with h | h
        · right; rw [h3, Int.max_eq_right h]; exact List.mem_cons_self
        · left; rw [h3, Int.max_eq_left h]
      · right; exact List.mem_cons_of_mem _ h3
theorem foldl_min_le (zs : List Int) : ∀ z : Int, zs.foldl min z ≤ z ∧ (∀ y ∈ zs, zs.foldl min z ≤ y) ∧ (zs.foldl min z = z ∨ zs.foldl min z ∈ zs) := by
  induction zs with
  | nil => intro z; exact ⟨Int.le_refl _, by simp, .inl rfl⟩
  | cons y ys ih =>
    intro z
    obtain ⟨h1, h2, h3⟩ := ih (min z y)
    refine ⟨by rw [List.foldl_cons]; omega, fun w hw => ?_, ?_⟩
    · rw [List.foldl_cons]
      rcases List.mem_cons.mp hw with rfl | hw
      · omega
      · exact h2 w hw
    · rw [List.foldl_cons]
      rcases h3 with h3 | h3
      · rcases Int.le_total z y with h | h
        · left; rw [h3, Int.min_eq_left h]
        · right; rw [h3, Int.min_eq_right h]; exact List.mem_cons_self
      · right; exact List.mem_cons_of_mem _ h3
theorem maxI_is {zs : List Int} {m : Int} (h : m ∈ zs) (hm : ∀ y ∈ zs, y ≤ m) : m = maxI zs := by
  cases zs with
  | nil => cases h
  | cons z zs =>
    obtain ⟨h1, h2, h3⟩ := foldl_max_le zs z
    have a : m ≤ maxI (z :: zs) := by
      rcases List.mem_cons.mp h with rfl | h
      · exact h1
      · exact h2 m h
    have b : maxI (z :: zs) ≤ m := by
      show zs.foldl max z ≤ m
      rcases h3 with h3 | h3
      · rw [h3]; exact hm z List.mem_cons_self
      · exact hm _ (List.mem_cons_of_mem _ h3)
    omega
theorem minI_is {zs : List Int} {m : Int} (h : m ∈ zs) (hm : ∀ y ∈ zs, m ≤ y) : m = minI zs := by
  cases zs with
  | nil => cases h
  | cons z zs =>
    obtain ⟨h1, h2, h3⟩ := foldl_min_le zs z
    have a : minI (z :: zs) ≤ m := by
      rcases List.mem_cons.mp h with rfl | h
      · exact h1
      · exact h2 m h
    have b : m ≤ minI (z :: zs) := by
      show m ≤ zs.foldl min z
      rcases h3 with h3 | h3
      · rw [h3]; exact hm z List.mem_cons_self
      · exact hm _ (List.mem_cons_of_mem _ h3)
    omega
def kMax : Rv → Re Rv := fun r => match r.d.seq? with
  | some ds => (match D.ints ds with | some zs => if 0 < zs.length then oki (maxI zs) else .bad | none => .bad) | none => .bad
def kMin : Rv → Re Rv := fun r => match r.d.seq? with
  | some ds => (match D.ints ds with | some zs => if 0 < zs.length then oki (minI zs) else .bad | none => .bad) | none => .bad
theorem re_max (cy : Cy X c) {p : Pos} (hg : Gl X "max") (hm : X.mg "max" = none) (ha : PE X a (tE c f)) (hs : starEach [a] X.env = [(false, eval a X.env)] := by rfl) : PE X (.Call (.Name "max" p) [a] [] pos) (tE c (e1 kMax f)) := by
  refine re_b1 (r := rMax c.K) (by rw [← cy.K]; exact cr_max cy.calm) ?_ hg hm (by decide +kernel) ha (by decide) (by decide) hs
  intro σ G H x rx Q gh bh hx q
  unfold kMax at q
  split at q
  · rename_i ds e
    split at q
    · rename_i bs eb
      split at q
      · obtain ⟨p, xs, rfl, e2, e3⟩ := hx.sql gh e
        rw [D.ints_eq eb] at e3
        rw [e3.ints] at e2
        refine ⟨p, bs, rfl, e2, by assumption, fun m hm hle => ?_⟩
        rw [maxI_is hm hle]
        exact post_sh gh q (.i _)
      · exact q.elim
    · exact q.elim
  · exact q.elim
theorem re_min (cy : Cy X c) {p : Pos} (hg : Gl X "min") (hm : X.mg "min" = none) (ha : PE X a (tE c f)) (hs : starEach [a] X.env = [(false, eval a X.env)] := by rfl) : PE X (.Call (.Name "min" p) [a] [] pos) (tE c (e1 kMin f)) := by
  refine re_b1 (r := rMin c.K) (by rw [← cy.K]; exact cr_min cy.calm) ?_ hg hm (by decide +kernel) ha (by decide) (by decide) hs
  intro σ G H x rx Q gh bh hx q
  unfold kMin at q
  split at q
  · rename_i ds e
    split at q
    · rename_i bs eb
      split at q
      · obtain ⟨p, xs, rfl, e2, e3⟩ := hx.sql gh e
        rw [D.ints_eq eb] at e3
        rw [e3.ints] at e2
        refine ⟨p, bs, rfl, e2, by assumption, fun m hm hle => ?_⟩
        rw [minI_is hm hle]
        exact post_sh gh q (.i _)
      · exact q.elim
    · exact q.elim
  · exact q.elim
def sortI (zs : List Int) : List Int := zs.mergeSort fun a b => decide (a ≤ b)
theorem sortI_is {zs ys : List Int} (hp : ys.Perm zs) (hs : ys.Pairwise (· ≤ ·)) : ys = sortI zs := by
  have h1 : (sortI zs).Perm zs := List.mergeSort_perm _ _
  have h2 : (sortI zs).Pairwise (· ≤ ·) := by
    have := List.pairwise_mergeSort (le := fun a b : Int => decide (a ≤ b)) (fun a b c h1 h2 => by simp only [decide_eq_true_eq] at *; omega) (fun a b => by simp only [Bool.or_eq_true, decide_eq_true_eq]; omega) zs
    exact this.imp fun h => by simpa using h
  exact List.Perm.eq_of_pairwise (fun a b _ _ h1 h2 => by omega) hs h2 (hp.trans h1.symm)
def kSort : Rv → Re Rv := fun r => match r.d.seq? with
  | some ds => (match D.ints ds with | some zs => .ok (.fr (.l ((sortI zs).map D.i))) | none => .bad) | none => .bad
theorem re_sort (cy : Cy X c) {p : Pos} (hg : Gl X "sorted") (hm : X.mg "sorted" = none) (ha : PE X a (tE c f)) (hs : starEach [a] X.env = [(false, eval a X.env)] := by rfl) : PE X (.Call (.Name "sorted" p) [a] [] pos) (tE c (e1 kSort f)) := by
  refine re_b1 (r := rSortedI c.K) (by rw [← cy.K]; exact cr_sortedI) ?_ hg hm (by decide +kernel) ha (by decide) (by decide) hs
  intro σ G H x rx Q gh bh hx q
  unfold kSort at q
  split at q
  · rename_i ds e
    split at q
    · rename_i bs eb
      obtain ⟨p, xs, rfl, e2, e3⟩ := hx.sql gh e
      rw [D.ints_eq eb] at e3
      rw [e3.ints] at e2
      refine ⟨p, bs, rfl, e2, fun ns' p' hp hs hn => ?_⟩
      rw [sortI_is hp hs]
      exact post_lst bh gh q (Reps.ofInts _) p' hn
    · exact q.elim
  · exact q.elim
end
end Ly
end

section
set_option maxRecDepth 100000
namespace Ly
open PySem PySem.Spec L2
open PyProof.Rows hiding St
variable [Tb]

def D.key? : D → Option Key
  | .i x => some (.inl x) | .s x => some (.inr x) | _ => none
def D.keys? : List D → Option (List Key)
  | [] => some []
  | d :: ds => match d.key?, D.keys? ds with | some k, some ks => some (k :: ks) | _, _ => none
theorem Rep.key {K : PySem.W.Frag} {G : Hp} {v : V} {d : D} {k : Key} (h : Rep K G v d) (e : d.key? = some k) : v = kV k := by
  cases h with
  | i z => cases e; rfl
  | s z => cases e; rfl
  | _ => cases e
theorem Reps.keys {K : PySem.W.Frag} {G : Hp} : ∀ {vs : List V} {ds : List D} {ks : List Key}, Reps K G vs ds → D.keys? ds = some ks → vs = ks.map kV
  | _, _, ks, .nil, e => by cases e; rfl
  | _, d :: ds, ks, .cons r rs, e => by
    unfold D.keys? at e
    split at e
    · rename_i k ks' e1 e2
      cases e
      rw [List.map_cons, ← r.key e1, ← Reps.keys rs e2]
    · cases e
def kget {κ : Type} [DecidableEq κ] : List κ → List D → κ → Option D
  | k' :: ks, d :: ds, k => if k' = k then some d else kget ks ds k
  | _, _, _ => none
def kput {κ : Type} [DecidableEq κ] (ks : List κ) (ds : List D) (k : κ) (d : D) : List κ × List D :=
  if k ∈ ks then (ks, (ks.zip ds).map fun p => if p.1 = k then d else p.2) else (ks ++ [k], ds ++ [d])
section
variable {κ : Type} [DecidableEq κ] {K : PySem.W.Frag} {G : Hp}
theorem kget_ok : ∀ {kvs : List (κ × V)} {ds : List D} {k : κ}, Reps K G (kvs.map (·.2)) ds → (valV kvs k = none ∧ kget (kvs.map (·.1)) ds k = none) ∨ ∃ v d, valV kvs k = some v ∧ kget (kvs.map (·.1)) ds k = some d ∧ Rep K G v d
  | [], _, k, .nil => .inl ⟨rfl, rfl⟩
  | p :: r, d :: ds, k, .cons h t => by
    by_cases e : p.1 = k
    · exact .inr ⟨p.2, d, valV_pos e, by rw [List.map_cons, kget, if_pos e], h⟩
    · rw [valV_neg e, List.map_cons, kget, if_neg e]
      exact kget_ok t
theorem mem_any {kvs : List (κ × V)} {k : κ} : (kvs.any fun kv => decide (kv.1 = k)) = true ↔ k ∈ kvs.map (·.1) := by
  simp [List.any_eq_true, List.mem_map]
theorem kput_ok {kvs : List (κ × V)} {ds : List D} {k : κ} {v : V} {d : D} (h : Reps K G (kvs.map (·.2)) ds) (r : Rep K G v d) :
    (kput (kvs.map (·.1)) ds k d).1 = (putK kvs k v).map (·.1) ∧ Reps K G ((putK kvs k v).map (·.2)) (kput (kvs.map (·.1)) ds k d).2 := by
  unfold kput putK
  by_cases hm : k ∈ kvs.map (·.1)
  · rw [if_pos hm, if_pos (mem_any.mpr hm)]
    refine ⟨?_, ?_⟩
    · clear hm h
      induction kvs with
      | nil => rfl
      | cons p t ih =>
        simp only [List.map_cons]
        have ih : List.map (fun x => x.1) t = List.map (fun x => x.1) (List.map (fun kv => if kv.1 = k then (kv.1, v) else kv) t) := ih
        rw [← ih]
        by_cases e : p.1 = k
        · rw [if_pos e]
        · rw [if_neg e]
    · clear hm
      induction kvs generalizing ds with
      | nil => cases h; exact .nil
      | cons p t ih =>
        cases h with
        | cons h1 h2 =>
          simp only [List.map_cons, List.zip_cons_cons]
          by_cases e : p.1 = k
          · rw [if_pos e, if_pos e]; exact .cons r (ih h2)
          · rw [if_neg e, if_neg e]; exact .cons h1 (ih h2)
  · rw [if_neg hm, if_neg (fun z => hm (mem_any.mp z))]
    exact ⟨by simp, by simpa using h.append (.cons r .nil)⟩
theorem putK_length_le (kvs : List (κ × V)) (k : κ) (v : V) : (putK kvs k v).length ≤ kvs.length + 1 := by
  unfold putK; split <;> simp
end
section
variable {X : Cx} {c : LC} {a b e o : Expr} {es : List Expr} {f g h : FE} {ft : FT} {fi : FI} {fa : FA} {u v : FS} {pos : Pos} {body : List Stmt}
theorem RV.dk {G H : Hp} {v : V} {r : Rv} {ks : List Key} {ds : List D} (gh : Same G H) (h : RV c G H v r) (e : r.d = .dk ks ds) : ∃ p kvs, v = .ref p ∧ Rd H p (.dK kvs) ∧ ks = kvs.map (·.1) ∧ Reps c.K G (kvs.map (·.2)) ds := by
  cases r with
  | sh d =>
    cases (show d = .dk ks ds from e)
    have h : Rep c.K G v (.dk ks ds) := h
    cases h with
    | dk h1 h2 h3 => exact ⟨_, _, rfl, Same.rd gh h1, h2, h3⟩
  | fr d => cases (show d = .dk ks ds from e); obtain ⟨p, e1, _, _, o⟩ := h; cases o with | dk h1 h2 h3 => exact ⟨p, _, e1, .inl h1, h2, h3⟩
  | bo d => cases (show d = .dk ks ds from e); obtain ⟨p, e1, _, _, o⟩ := h; cases o with | dk h1 h2 h3 => exact ⟨p, _, e1, .inl h1, h2, h3⟩
theorem RV.dt {G H : Hp} {v : V} {r : Rv} {ks : List (List Key)} {ds : List D} (gh : Same G H) (h : RV c G H v r) (e : r.d = .dt ks ds) : ∃ p kvs, v = .ref p ∧ Rd H p (.dT kvs) ∧ ks = kvs.map (·.1) ∧ Reps c.K G (kvs.map (·.2)) ds := by
  cases r with
  | sh d =>
    cases (show d = .dt ks ds from e)
    have h : Rep c.K G v (.dt ks ds) := h
    cases h with
    | dt h1 h2 h3 => exact ⟨_, _, rfl, Same.rd gh h1, h2, h3⟩
  | fr d => cases (show d = .dt ks ds from e); obtain ⟨p, e1, _, _, o⟩ := h; cases o with | dt h1 h2 h3 => exact ⟨p, _, e1, .inl h1, h2, h3⟩
  | bo d => cases (show d = .dt ks ds from e); obtain ⟨p, e1, _, _, o⟩ := h; cases o with | dt h1 h2 h3 => exact ⟨p, _, e1, .inl h1, h2, h3⟩
def dlook (dict key : D) : Option (Option D) := match dict with
  | .dk ks ds => (key.key?).map fun k => kget ks ds k
  | .dt ks ds => (match key with | .t kd => (D.keys? kd).map fun k => kget ks ds k | _ => none)
  | _ => none
theorem RV.key {G H : Hp} {v : V} {r : Rv} {k : Key} (h : RV c G H v r) (e : r.d.key? = some k) : v = kV k := by
  cases k with
  | inl z =>
    have ed : r.d = .i z := by cases q : r.d <;> rw [q] at e <;> cases e; rfl
    exact h.int ed
  | inr z =>
    have ed : r.d = .s z := by cases q : r.d <;> rw [q] at e <;> cases e; rfl
    exact h.str ed
theorem dlook_ok {G H : Hp} {v y : V} {r s : Rv} {o : Option D} (gh : Same G H) (h : RV c G H v r) (hy : RV c G H y s) (e : dlook r.d s.d = some o) :
    ∃ p ov, v = .ref p ∧ DGet H p y ov ∧ ((ov = none ∧ o = none) ∨ ∃ w d, ov = some w ∧ o = some d ∧ Rep c.K G w d) := by
  unfold dlook at e
  split at e
  · rename_i ks ds ed
    obtain ⟨p, kvs, rfl, h1, rfl, h3⟩ := h.dk gh ed
    cases ek : s.d.key? with
    | none => rw [ek] at e; cases e
    | some k =>
      rw [ek] at e
      cases e
      have ey := hy.key ek
      refine ⟨p, valV kvs k, rfl, .inl ⟨kvs, k, h1, ey, rfl⟩, ?_⟩
      rcases kget_ok (k := k) h3 with ⟨a, b⟩ | ⟨w, d, a, b, r⟩
      · exact .inl ⟨a, b⟩
      · exact .inr ⟨w, d, a, b, r⟩
  · rename_i ks ds ed
    obtain ⟨p, kvs, rfl, h1, rfl, h3⟩ := h.dt gh ed
    split at e
    · rename_i kd es
      cases ek : D.keys? kd with
      | none => rw [ek] at e; cases e
      | some k =>
        rw [ek] at e
        cases e
        obtain ⟨b, xs, rfl, h4, h5⟩ := hy.tup es
        rw [h5.keys ek] at h4
        refine ⟨p, valV kvs k, rfl, .inr ⟨kvs, k, b, h1, rfl, gh _ _ h4, rfl⟩, ?_⟩
        rcases kget_ok (k := k) h3 with ⟨a, b⟩ | ⟨w, d, a, b, r⟩
        · exact .inl ⟨a, b⟩
        · exact .inr ⟨w, d, a, b, r⟩
    · cases e
  · cases e
def kDget : Rv → Rv → Re Rv := fun x y => match dlook x.d y.d with
  | some (some d) => .ok (.sh d) | _ => .bad
theorem re_dget (cy : Cy X c) (ho : PE X o (tE c f)) (hi : PE X a (tE c g)) (hs : NoSl a := by intro _ _; rfl) : PE X (.Subscript o a pos) (tE c (e2 kDget f g)) := by
  have hu : X.A.units + 1 < cLine := Nat.lt_of_le_of_lt (Nat.add_le_add_left (by decide) _) cy.un
  refine PE.weak (pe_dget hu ho hi hs) ?_
  rintro σ H Q ⟨G, Γ, he, q⟩
  refine eE he q fun rx x G1 H1 eq1 g1 v1 fr1 he1 q1 => ?_
  refine eE he1 q1 fun ry y G2 H2 eq2 g2 v2 fr2 he2 q2 => ?_
  unfold kDget at q2
  split at q2
  · rename_i d ed
    obtain ⟨p, ov, e1, hd, h⟩ := dlook_ok he2.gh (v1.mono g2) v2 ed
    rcases h with ⟨_, h⟩ | ⟨w, d', h1, h2, h3⟩
    · cases h
    · cases h2
      subst h1
      exact ⟨p, w, e1, hd, post_sh he2.gh q2 h3⟩
  · exact q2.elim
def inD (x y : D) : Option Bool := match y with
  | .dk _ _ => (dlook y x).map Option.isSome
  | .dt _ _ => (dlook y x).map Option.isSome
  | .l ds => if dok 12 x = true ∧ dok 12 (.l ds) = true then some (ds.any fun z => deq z x) else none
  | .s t => (match x with | .s w => (match w.cps.toList with | [ch] => some (decide (ch ∈ t.cps.toList)) | _ => none) | _ => none)
  | _ => none
def rInA (K : PySem.W.Frag) (neg : Bool) : R2 := fun x y H Q => (∃ a o, y = .ref a ∧ DGet H a x o ∧ Q (.bl (if neg then !o.isSome else o.isSome)) H) ∨
  (∃ d ds, Dp K H x d ∧ Dp K H y (.list ds) ∧ SeqAt.shaped d = true ∧ SeqAt.shaped (.list ds) = true ∧ Q (.bl (if neg then !ds.any fun z => PyData.eqv z d else ds.any fun z => PyData.eqv z d)) H) ∨
  (∃ i j : Str, x = .str i ∧ y = .str j ∧ Q (.bl (if neg then !(!(Builtin.Str.occurrences j i 0 j.length 1).isEmpty) else !(Builtin.Str.occurrences j i 0 j.length 1).isEmpty)) H)
theorem op_inA (hu : X.A.units + 65 < cLine) : OpR X (compareOp .In) (rInA X.K false) := by
  intro pins s σ H x y v u Q I rx ry h
  rcases h with ⟨a, o, rfl, hd, q⟩ | ⟨d, ds, h1, h2, h3, h4, q⟩ | ⟨i, j, h1, h2, q⟩
  · obtain rfl : u = Value.ref a := ry
    exact d_in (by omega) I hd rx fun s3 I3 => ⟨.bl o.isSome, H, I3, rfl, q⟩
  · exact op_inD hu pins s σ H x y v u Q I rx ry ⟨d, ds, h1, h2, h3, h4, q⟩
  · exact op_in_str pins s σ H x y v u Q I rx ry ⟨i, j, h1, h2, q⟩
theorem op_notInA (hu : X.A.units + 65 < cLine) : OpR X (compareOp .NotIn) (rInA X.K true) := by
  intro pins s σ H x y v u Q I rx ry h
  rcases h with ⟨a, o, rfl, hd, q⟩ | ⟨d, ds, h1, h2, h3, h4, q⟩ | ⟨i, j, h1, h2, q⟩
  · obtain rfl : u = Value.ref a := ry
    exact d_notIn (by omega) I hd rx fun s3 I3 => ⟨.bl (!o.isSome), H, I3, rfl, q⟩
  · exact op_notInD hu pins s σ H x y v u Q I rx ry ⟨d, ds, h1, h2, h3, h4, q⟩
  · exact op_notin_str pins s σ H x y v u Q I rx ry ⟨i, j, h1, h2, q⟩
def kIn (neg : Bool) : Rv → Rv → Re Rv := fun x y => match inD x.d y.d with
  | some k => okb (if neg then !k else k) | none => .bad
theorem pys_any (x : D) : ∀ ds : List D, ((D.pys ds).any fun z => PyData.eqv z x.py) = ds.any fun z => deq z x
  | [] => by rw [D.pys]; rfl
  | d :: ds => by rw [D.pys, List.any_cons, List.any_cons, pys_any x ds]; rfl
theorem ok2_in (neg : Bool) : Ok2 c (rInA c.K neg) (kIn neg) := by
  intro σ G H x y rx ry Q gh bh hx hy q
  unfold kIn at q
  split at q
  · rename_i k ek
    have q : Post c (okb (if neg then !k else k)) σ G H Q := q
    unfold inD at ek
    split at ek
    · rename_i ks ds ed
      cases el : dlook ry.d rx.d with
      | none => rw [el] at ek; cases ek
      | some o =>
        rw [el] at ek
        cases ek
        obtain ⟨p, ov, e1, hd, h⟩ := dlook_ok gh hy hx el
        have ei : ov.isSome = o.isSome := by
          rcases h with ⟨h1, h2⟩ | ⟨w, d, h1, h2, _⟩ <;> rw [h1, h2] <;> rfl
        exact .inl ⟨p, ov, e1, hd, by rw [ei]; exact post_sh gh q (.b _)⟩
    · rename_i ks ds ed
      cases el : dlook ry.d rx.d with
      | none => rw [el] at ek; cases ek
      | some o =>
        rw [el] at ek
        cases ek
        obtain ⟨p, ov, e1, hd, h⟩ := dlook_ok gh hy hx el
        have ei : ov.isSome = o.isSome := by
          rcases h with ⟨h1, h2⟩ | ⟨w, d, h1, h2, _⟩ <;> rw [h1, h2] <;> rfl
        exact .inl ⟨p, ov, e1, hd, by rw [ei]; exact post_sh gh q (.b _)⟩
    · rename_i ds ed
      split at ek
      · rename_i hd
        cases ek
        have hdy : dok 12 ry.d = true := by rw [ed]; exact hd.2
        have dy := hy.dp gh 11 hdy
        have sy := dok_shaped hdy (by decide)
        rw [ed, D.py] at dy sy
        refine .inr (.inl ⟨_, _, hx.dp gh 11 hd.1, dy, dok_shaped hd.1 (by decide), sy, ?_⟩)
        rw [pys_any]
        exact post_sh gh q (.b _)
      · cases ek
    · rename_i t ed
      split at ek
      · rename_i w ew
        split at ek
        · rename_i ch ec
          cases ek
          have exw : w = ⟨#[ch]⟩ := by
            obtain ⟨l⟩ := w
            have : l = #[ch] := by
              apply Array.ext'
              simpa using ec
            rw [this]
          refine .inr (.inr ⟨w, t, hx.str ew, hy.str ed, ?_⟩)
          subst exw
          have e1 : (!(Builtin.Str.occurrences t ⟨#[ch]⟩ 0 t.length 1).isEmpty) = decide (ch ∈ t.cps.toList) := PySem.StrLaws.found_one t ch
          rw [e1]
          exact post_sh gh q (.b _)
        · cases ek
      · cases ek
    · cases ek
  · exact q.elim
end
structure Cy2 (X : Cx) : Prop where
  un : X.A.units + 65 < cLine
section
variable {X : Cx} {c : LC} {a b e o : Expr} {es : List Expr} {f g h : FE} {ft : FT} {fi : FI} {fa : FA} {u v : FS} {pos : Pos} {body : List Stmt}
theorem cd_in (cy : Cy X c) (hu : X.A.units + 65 < cLine) : CmpD X c .In (kIn false) := ⟨_, cy.K ▸ op_inA hu, ok2_in false⟩
theorem cd_notIn (cy : Cy X c) (hu : X.A.units + 65 < cLine) : CmpD X c .NotIn (kIn true) := ⟨_, cy.K ▸ op_notInA hu, ok2_in true⟩
def dput (dict key val : D) : Option D := match dict with
  | .dk ks ds => if ks.length < 16777216 then (key.key?).map fun k => .dk (kput ks ds k val).1 (kput ks ds k val).2 else none
  | .dt ks ds => if ks.length < 16777216 then (match key with | .t kd => (D.keys? kd).map fun k => .dt (kput ks ds k val).1 (kput ks ds k val).2 | _ => none) else none
  | _ => none
def sDput (i : Nat) (fk fv : FE) : FS := fun Γ => match Γ[i]? with
  | some (some (.fr t)) => (fv Γ).fl Γ fun r => (share r).fl Γ fun d => (fk Γ).fl Γ fun k => (match dput t k.d d with | some t' => .nx (Γ.set i (some (.fr t'))) | none => .bad)
  | _ => .bad
theorem rs_dput (cy : Cy X c) {i : Nat} {x : Str} {px pos' : Pos} (hN : X.N[i]? = some x) (hv : Vis X.env.scope x) (hk : PE X a (tE c g)) (hval : PE X e (tE c f))
    (hd : (x == ("__debug__" : Str)) = false := by decide) (hcd : (x == ("__classdict__" : Str)) = false := by decide)
    (hs : swapsWith e (some (.Subscript (.Name x px) a pos')) pos.line X.env = pure false := by rfl) : PS X (.Assign [.Subscript (.Name x px) a pos'] e pos) (tS c (sDput i g f)) := by
  have hu : X.A.units + 1 < cLine := Nat.lt_of_le_of_lt (Nat.add_le_add_left (by decide) _) cy.un
  refine PS.weak (ps_dput hu (pe_var hN hv hd hcd) hk hval hs) ?_
  rintro D σ H ⟨G, Γ, he, q⟩
  unfold sDput at q
  split at q
  · rename_i t hi
    obtain ⟨vo, h1, ⟨p, rfl, bp, gp, o⟩, _⟩ := he.at' i _ hi
    refine sS he q fun d w G1 H1 g1 r1 he1 q1 => ?_
    refine ⟨_, h1, ?_⟩
    refine sE he1 q1 fun rk y G2 H2 eq2 g2 v2 fr2 he2 q2 => ?_
    split at q2
    · rename_i t' et
      have o2 := (o.mono g1.hh g1.gg).mono g2.hh g2.gg
      have r2 := r1.mono g2.gg
      cases o2 with
      | l _ _ => cases et
      | @dk kvs ks ds h2 h3 h4 =>
        unfold dput at et
        dsimp only at et
        split at et
        · rename_i hl
          cases ek : rk.d.key? with
          | none => rw [ek] at et; cases et
          | some k =>
            rw [ek] at et
            cases et
            subst h3
            obtain ⟨e1, e2⟩ := kput_ok (k := k) h4 r2
            refine ⟨p, _, rfl, .inl ⟨kvs, k, h2, v2.key ek, by rw [sizeLine_eq]; simpa using hl, rfl⟩, ?_⟩
            exact q2 σ G2 _ (he2.put (d' := .dk (kput (kvs.map (·.1)) ds k d).1 (kput (kvs.map (·.1)) ds k d).2) hi h1 (.dk upd_same e1 e2)) (Same.refl _)
        · cases et
      | @dt kvs ks ds h2 h3 h4 =>
        unfold dput at et
        dsimp only at et
        split at et
        · rename_i hl
          split at et
          · rename_i kd ekd
            cases ek : Ly.D.keys? kd with
            | none => rw [ek] at et; cases et
            | some k =>
              rw [ek] at et
              cases et
              subst h3
              obtain ⟨e1, e2⟩ := kput_ok (k := k) h4 r2
              obtain ⟨b, xs, rfl, h5, h6⟩ := v2.tup ekd
              rw [h6.keys ek] at h5
              refine ⟨p, _, rfl, .inr ⟨kvs, k, b, h2, rfl, he2.gh _ _ h5, by rw [sizeLine_eq]; simpa using hl, rfl⟩, ?_⟩
              exact q2 σ G2 _ (he2.put (d' := .dt (kput (kvs.map (·.1)) ds k d).1 (kput (kvs.map (·.1)) ds k d).2) hi h1 (.dt upd_same e1 e2)) (Same.refl _)
          · cases et
        · cases et
    · exact q2.elim
  · exact q.elim
end
end Ly
end

section
set_option maxRecDepth 100000
namespace Ly
open PySem PySem.Spec L2
open PyProof.Rows hiding St
section
variable [Tb]
section
variable {X : Cx} {c : LC} {a b e o : Expr} {es : List Expr} {f g h : FE} {ft : FT} {fi : FI} {fa : FA} {u v : FS} {pos : Pos} {body : List Stmt} {tg : Expr}
theorem nv (i : Nat) {x : Str} (hN : X.N[i]? = some x := by rfl) (hv : Vis X.env.scope x := by first | exact Or.inl rfl | exact Or.inr (Or.inl rfl) | exact Or.inr (Or.inr rfl)) (hd : (x == ("__debug__" : Str)) = false := by decide)
    (hcd : (x == ("__classdict__" : Str)) = false := by decide) : PE X (.Name x pos) (tE c (eV i)) := re_v hN hv hd hcd
theorem re_gi {x : Str} {z : Int} (h : ∃ t, X.mg x = some (.int z t)) (hg : Gl X x := by rfl) (hd : (x == ("__debug__" : Str)) = false := by decide) : PE X (.Name x pos) (tE c (eC (.i z))) := by
  obtain ⟨t, h⟩ := h
  exact re_gl hg h (v := .int z) ⟨t, rfl⟩ (fun _ => .i z) hd
theorem re_gs {x : Str} {z : Str} (h : ∃ t, X.mg x = some (.str z t)) (hg : Gl X x := by rfl) (hd : (x == ("__debug__" : Str)) = false := by decide) : PE X (.Name x pos) (tE c (eC (.s z))) := by
  obtain ⟨t, h⟩ := h
  exact re_gl hg h (v := .str z) ⟨t, rfl⟩ (fun _ => .s z) hd
def itA (f : FE) : FI := fun Γ => (f Γ).bind fun r => match r with
  | .sh (.l ds) => .ok ds | .fr (.l ds) => .ok ds | .sh (.z ds) => .ok ds | .sh (.t ds) => .ok ds | .sh (.zt ds) => .ok ds | .sh (.s x) => .ok (signs x) | _ => .bad
theorem ri_any (cy : Cy X c) (ha : PE X e (tE c f)) : PI X tg e (tI c (itA f)) := by
  have h1 := ri_list (tg := tg) cy ha
  have h2 := ri_tup (tg := tg) cy ha
  have h3 := ri_str (tg := tg) (c := c) ha
  refine ⟨fun pins s σ H R I hq => ?_⟩
  obtain ⟨G, Γ, he, q⟩ := hq
  unfold itA at q
  cases ef : f Γ with
  | bad => exact h1.run pins s σ H R I ⟨G, Γ, he, by unfold itL; rw [ef] at q ⊢; exact q⟩
  | ex x => exact h1.run pins s σ H R I ⟨G, Γ, he, by unfold itL; rw [ef] at q ⊢; exact q⟩
  | ok r =>
    rw [ef] at q
    simp only [Re.bind_ok] at q
    split at q
    · exact h1.run pins s σ H R I ⟨G, Γ, he, by unfold itL; rw [ef]; exact q⟩
    · exact h1.run pins s σ H R I ⟨G, Γ, he, by unfold itL; rw [ef]; exact q⟩
    · exact h1.run pins s σ H R I ⟨G, Γ, he, by unfold itL; rw [ef]; exact q⟩
    · exact h2.run pins s σ H R I ⟨G, Γ, he, by unfold itT; rw [ef]; exact q⟩
    · exact h2.run pins s σ H R I ⟨G, Γ, he, by unfold itT; rw [ef]; exact q⟩
    · exact h3.run pins s σ H R I ⟨G, Γ, he, by unfold itS; rw [ef]; exact q⟩
    · exact q.elim
theorem rgn_nil : PGs X [] (gNames []) := pgs_nil
theorem rgn_cons (cy : Cy X c) {i : Nat} {x : Str} {px : Pos} {is : List Nat} (hr : PGs X es (gNames is)) (hi : X.N[i]? = some x := by rfl) (hx : Loc X.env.scope x := by first | exact Or.inl rfl | exact Or.inr rfl)
    (hf : X.fn x = true ∨ X.env.scope.names.lookup x = some .local := by first | exact .inl rfl | exact .inr rfl)
    (hs : (assignEach (.Name x px :: es) X.env).map (·.2) = assign (.Name x px) X.env :: (assignEach es X.env).map (·.2) := by rfl) : PGs X (.Name x px :: es) (gNames (i :: is)) :=
  pgs_cons (pg_name cy.nd hi hx hf) hr hs
theorem rg_names (cy : Cy X c) {k : Nat} {is : List Nat} (h : PGs X es (gNames is)) (hn : (assignEach es X.env).length = is.length := by rfl) (hst : (assignEach es X.env).findIdx? (·.1) = none := by rfl) :
    PG X (.Tuple es k pos) ((Tg.tup is).tgt c.K) := cy.K ▸ pg_tup cy.calm h hn hst
theorem rg1 (cy : Cy X c) (i : Nat) {x : Str} (hi : X.N[i]? = some x := by rfl) (hx : Loc X.env.scope x := by first | exact Or.inl rfl | exact Or.inr rfl)
    (hf : X.fn x = true ∨ X.env.scope.names.lookup x = some .local := by first | exact .inl rfl | exact .inr rfl) : PG X (.Name x pos) ((Tg.one i).tgt c.K) := rg_one cy hi hx hf
def sPar (i j : Nat) (f g : FE) : FS := fun Γ => (f Γ).fl Γ fun r => (share r).fl Γ fun d => (g Γ).fl Γ fun s => (share s).fl Γ fun e => .nx ((Γ.set i (some (.sh d))).set j (some (.sh e)))
theorem rs_par (cy : Cy X c) {i j : Nat} {x y : Str} {px py pt : Pos} {kt k2 pt2} (hi : X.N[i]? = some x) (hj : X.N[j]? = some y) (hij : i ≠ j)
    (hx : X.env.scope.names.lookup x = some .local) (hy : X.env.scope.names.lookup y = some .local) (ha : PE X a (tE c f)) (hb : PE X b (tE c g))
    (hw : swappedStores [.Tuple [.Name x px, .Name y py] kt pt] (.Tuple [a, b] k2 pt2) X.env = pure (some [x, y]))
    (hs : swapsWithSole [.Tuple [.Name x px, .Name y py] kt pt] (.Tuple [a, b] k2 pt2) pos.line X.env = pure false := by rfl)
    (h1 : starEach [a, b] X.env = (false, eval a X.env) :: starEach [b] X.env := by rfl) (h2 : starEach [b] X.env = [(false, eval b X.env)] := by rfl) :
    PS X (.Assign [.Tuple [.Name x px, .Name y py] kt pt] (.Tuple [a, b] k2 pt2) pos) (tS c (sPar i j f g)) := by
  refine PS.weak (ps_par cy.calm cy.nd hi hj hij hx hy (pa_cons ha (pa_cons hb pa_nil h2) h1) hw hs) ?_
  rintro D σ H ⟨G, Γ, he, q⟩
  refine sS he q fun d v G1 H1 g1 r1 he1 q1 => ?_
  refine sS he1 q1 fun d2 v2 G2 H2 g2 r2 he2 q2 => ?_
  exact ⟨v, v2, rfl, q2 _ G2 H2 ((he2.setSh i (r1.mono g2.gg)).setSh j r2) (Same.refl _)⟩
theorem rt_isN {j pos'} (ha : PE X a (tE c f)) : PT X (.Compare a [.Is] [.Constant .none j pos'] pos) (tT c (tV (e2 (kIs false) f (eC .n)))) := by
  refine tV_test (t := tIsN (tE c f)) (pt_cmp (pc_isN ha)) ?_
  rintro σ H Q ⟨G, Γ, he, q⟩
  refine eE he q fun rx x G1 H1 e1 g1 v1 fr1 he1 q1 => ?_
  have q1 : Post c (okb (isN rx)) σ G1 H1 Q := q1
  rw [v1.isN]
  exact post_sh he1.gh q1 (.b _)
theorem rt_notN {j pos'} (ha : PE X a (tE c f)) : PT X (.Compare a [.IsNot] [.Constant .none j pos'] pos) (tT c (tV (e2 (kIs true) f (eC .n)))) := by
  refine tV_test (t := tNotN (tE c f)) (pt_cmp (pc_notN ha)) ?_
  rintro σ H Q ⟨G, Γ, he, q⟩
  refine eE he q fun rx x G1 H1 e1 g1 v1 fr1 he1 q1 => ?_
  have q1 : Post c (okb (!isN rx)) σ G1 H1 Q := q1
  show Q (.bl (!decide (x = .non))) H1
  rw [v1.isN]
  exact post_sh he1.gh q1 (.b _)
def kLr1 : Rv → Re Rv := fun r => match r.d with | .i j => kLr 0 j | _ => .bad
def kAug_add : Rv → Rv → Re Rv := kI fun i j => oki (i + j)
def kAug_mul : Rv → Rv → Re Rv := kI fun i j => if (-(2 ^ 64) < i ∧ i < 2 ^ 64) ∨ (-(2 ^ 64) < j ∧ j < 2 ^ 64) then oki (i * j) else .bad
def kAug_mod : Rv → Rv → Re Rv := kI fun i j => if 0 < j then oki (i % j) else .bad
def kAug_div : Rv → Rv → Re Rv := kI fun i j => if 0 < j ∧ j < 1073741824 then oki (i / j) else .bad
variable {i : Nat} {x : Str} {pos' : Pos}
theorem ra_add (cy : Cy X c) (hi : X.N[i]? = some x) (hx : Loc X.env.scope x) (ha : PE X e (tE c f)) (hf : X.fn x = true ∨ X.env.scope.names.lookup x = some .local := by first | exact .inl rfl | exact .inr rfl) :
    PS X (.AugAssign (.Name x pos') .Add e pos) (tS c (sAug i kAug_add f)) := rs_aug cy hi hx iop_add ok2_I0 ha hf
theorem ra_mul (cy : Cy X c) (hi : X.N[i]? = some x) (hx : Loc X.env.scope x) (ha : PE X e (tE c f)) (hf : X.fn x = true ∨ X.env.scope.names.lookup x = some .local := by first | exact .inl rfl | exact .inr rfl) :
    PS X (.AugAssign (.Name x pos') .Mult e pos) (tS c (sAug i kAug_mul f)) := rs_aug cy hi hx iop_mul (ok2_I (h := fun i j => i * j) fun i j => by
      by_cases hj : (-(2 ^ 64) < i ∧ i < 2 ^ 64) ∨ (-(2 ^ 64) < j ∧ j < 2 ^ 64)
      · left; rw [if_pos hj]; exact ⟨rfl, hj⟩
      · right; rw [if_neg hj]) ha hf
theorem ra_mod (cy : Cy X c) (hi : X.N[i]? = some x) (hx : Loc X.env.scope x) (ha : PE X e (tE c f)) (hf : X.fn x = true ∨ X.env.scope.names.lookup x = some .local := by first | exact .inl rfl | exact .inr rfl) :
    PS X (.AugAssign (.Name x pos') .Mod e pos) (tS c (sAug i kAug_mod f)) := rs_aug cy hi hx iop_mod (ok2_I (h := fun i j => i % j) fun i j => by by_cases hj : 0 < j <;> simp [hj]) ha hf
theorem ra_div (cy : Cy X c) (hi : X.N[i]? = some x) (hx : Loc X.env.scope x) (ha : PE X e (tE c f)) (hf : X.fn x = true ∨ X.env.scope.names.lookup x = some .local := by first | exact .inl rfl | exact .inr rfl) :
    PS X (.AugAssign (.Name x pos') .FloorDiv e pos) (tS c (sAug i kAug_div f)) := rs_aug cy hi hx iop_fdiv (ok2_I (h := fun i j => i / j) fun i j => by
      by_cases hj : 0 < j ∧ j < 1073741824
      · left; rw [if_pos hj]; exact ⟨rfl, hj⟩
      · right; rw [if_neg hj]) ha hf
end
end
theorem _root_.L2.Room.units65 {k : Nat} {A : Around} (r : Room k A) : A.units + 65 < cLine := by have := r.un; omega
theorem only_noT {H : Hp} (h : Only H) : NoT H := fun a ps e => by
  rcases h a with z | ⟨o, xs, z⟩ <;> rw [z] at e <;> cases e
theorem walk_law {l : PySem.W.OpenLaw} {q : Program} {loose : List Str} {XP : (Str → Option Value) → Heap → Prop} {YP : World → Heap → Prop} {d : DefRec} {K : Params → PySem.W.Frag} {k : Nat} {x : Str} {F : List D → Re Rv} (hn : l.most = some 63) (hdf : d.params.defaults = []) (hr : Room k callerA)
    (hY : ∀ (w : World) (h : Heap), YP w h → (K w.params).In h)
    (hF : ∀ (w : World) (mg : Str → Option Value) (fa : Addr) (h : Heap), (K w.params).In h → h.Ns mainGlobals mg → mg d.name = some (.ref fa) →
      ∃ fd : FuncData, (∀ (s : Shared) (u : Value), BindsTo s fd ⟨[u], []⟩ [(x, u)]) ∧ ∀ base : Heap, (K w.params).In base → base.Ns mainGlobals mg → FnOk l.prog w (K w.params) mg base (L2N.CX l.prog w) k fa fd [x] (spF (K w.params) mg 1 F))
    (ht : ∀ ns : List Int, ns.length ≤ 63 → F [.z (ns.map .i)] = .ok (.sh (.b true))) :
    PySem.W.WalkO q loose XP YP l.row.toRowW d [] (fun f vs => PySem.call f vs) := by
  refine L2.walk_of (n := 63) (k := k) (x := x) (CX := fun w => L2N.CX l.prog w)
    (sp := fun w vs H Q _ => ∃ (a : Addr) (ns : List Int), vs = [.ref a] ∧ NoT H ∧ SqL (K w.params) H a (ns.map V.int) ∧ ns.length ≤ 63 ∧ ∀ H', Q (.bl true) H') hn (by decide) hdf hr hY ?_ (fun w H a ns h1 h2 h3 => ⟨a, ns, rfl, only_noT h2, h3, h1, fun _ => rfl⟩) ?_
  · intro w mg fa h KX G hmg
    obtain ⟨fd, hb, h⟩ := hF w mg fa h KX G hmg
    refine ⟨fd, hb, fun base hK hG => (h base hK hG).imp fun vs H Q E ⟨a, ns, e, ho, hs, hl, hq⟩ => ?_⟩
    subst e
    refine ⟨H, [.z (ns.map .i)], rfl, ⟨Same.refl _, ho, fun q hq => absurd (show q ∈ ([] : List (Addr × Str)) from hq) (by simp)⟩, .cons (.z hs (Reps.ofInts ns)) .nil, ?_⟩
    rw [ht ns hl]
    intro v G' H' g rv
    cases rv.bl_inv
    exact hq H'
  · intro w H s e s' h
    obtain ⟨_, _, _, _, _, _, _, _, _, _, _, _, z⟩ := h
    exact z
end Ly
end

section
set_option maxRecDepth 100000
namespace Ly
open PySem PySem.Spec L2
open PyProof.Rows hiding St
section
variable {Γ : Env'} {f g h : FE} {ft gt : FT} {fa : FA} {fi : FI} {u v : FS}
@[simp] theorem eV_0 {a : Option Rv} {r : Env'} : eV 0 (a :: r) = match (a : Option Rv) with | some (.sh d) => .ok (.sh d) | some (.fr d) => .ok (.bo d) | _ => .bad := by
  cases a with
  | none => rfl
  | some x => cases x <;> rfl
@[simp] theorem eV_s {i : Nat} {a : Option Rv} {r : Env'} : eV (i + 1) (a :: r) = eV i r := rfl
@[simp] theorem eC_at {d : D} : eC d Γ = .ok (.sh d) := rfl
@[simp] theorem e1_at {k : Rv → Re Rv} : e1 k f Γ = (f Γ).bind k := rfl
@[simp] theorem e2_at {k : Rv → Rv → Re Rv} : e2 k f g Γ = (f Γ).bind fun x => (g Γ).bind fun y => k x y := rfl
@[simp] theorem eIf_at : eIf ft f g Γ = (ft Γ).bind fun x => if x = true then f Γ else g Γ := rfl
@[simp] theorem eAnd_at : eAnd f g Γ = (f Γ).bind fun x => match x with | .sh (.b true) => g Γ | .sh (.b false) => .ok (.sh (.b false)) | _ => .bad := rfl
@[simp] theorem eOr_at : eOr f g Γ = (f Γ).bind fun x => match x with | .sh (.b true) => .ok (.sh (.b true)) | .sh (.b false) => g Γ | _ => .bad := rfl
@[simp] theorem eNot_at : eNot f Γ = (f Γ).bind fun x => match x with | .sh (.b k) => .ok (.sh (.b (!k))) | _ => .bad := rfl
@[simp] theorem tV_at : tV f Γ = (f Γ).bind kB := rfl
@[simp] theorem kB_b {x : Bool} : kB (.sh (.b x)) = .ok x := rfl
@[simp] theorem tNotF_at : tNotF ft Γ = (ft Γ).bind fun x => .ok (!x) := rfl
@[simp] theorem tAndF_at : tAndF ft gt Γ = (ft Γ).bind fun x => if x = true then gt Γ else .ok false := rfl
@[simp] theorem tOrF_at : tOrF ft gt Γ = (ft Γ).bind fun x => if x = true then .ok true else gt Γ := rfl
@[simp] theorem aNil_at : aNil Γ = .ok [] := rfl
@[simp] theorem aCons_at : aCons f fa Γ = (f Γ).bind fun r => (share r).bind fun d => (fa Γ).bind fun ds => .ok (d :: ds) := rfl
@[simp] theorem share_sh {d : D} : share (.sh d) = .ok d := rfl
@[simp] theorem share_fr {d : D} : share (.fr d) = .ok d := rfl
@[simp] theorem eLst_at : eLst fa Γ = (fa Γ).bind fun ds => if ds.length ≤ 16777216 then .ok (.fr (.l ds)) else .bad := rfl
@[simp] theorem eTup_at : eTup fa Γ = (fa Γ).bind fun ds => if ds.length ≤ 16777216 then .ok (.sh (.t ds)) else .bad := rfl
@[simp] theorem eSl_at {lo hi : FO} : eSl f lo hi Γ = (f Γ).bind fun r => (lo Γ).bind fun l => (hi Γ).bind fun h => kSl r l h := rfl
@[simp] theorem oNo_at : oNo Γ = .ok none := rfl
@[simp] theorem oIs_at : oIs f Γ = (f Γ).bind fun r => match r with | .sh (.i k) => .ok (some k) | _ => .bad := rfl
@[simp] theorem eCall_at {n : Nat} {F : List D → Re Rv} : eCall n F fa Γ = (fa Γ).bind fun ds => if ds.length = n then (match F ds with | .ok (.bo _) => .bad | r => r) else .bad := rfl
@[simp] theorem eCh_at {k k' : Rv → Rv → Re Rv} : eCh k k' f g h Γ = (f Γ).bind fun x => (g Γ).bind fun y => (k x y).bind fun z => match z with | .sh (.b true) => (h Γ).bind fun w => k' y w | .sh (.b false) => .ok (.sh (.b false)) | _ => .bad := rfl
@[simp] theorem eLc_at {t : Tg} {fe : FE} {own : List Nat} : eLc fi t ft fe own Γ = (fi Γ).bind fun ds => lcRes (lcL t ft fe (wipeG Γ own) ds) := rfl
@[simp] theorem itR1_at : itR1 f Γ = (f Γ).bind fun r => match r with | .sh (.i j) => itR 0 j | _ => .bad := rfl
@[simp] theorem itR2_at : itR2 f g Γ = (f Γ).bind fun r => (g Γ).bind fun s => match r, s with | .sh (.i i), .sh (.i j) => itR i j | _, _ => .bad := rfl
@[simp] theorem itA_at : itA f Γ = (f Γ).bind fun r => match r with | .sh (.l ds) => .ok ds | .fr (.l ds) => .ok ds | .sh (.z ds) => .ok ds | .sh (.t ds) => .ok ds | .sh (.zt ds) => .ok ds | .sh (.s x) => .ok (signs x) | _ => .bad := rfl
@[simp] theorem fl_ok {α : Type} {a : α} {k : α → Fl} : (Re.ok a).fl Γ k = k a := rfl
@[simp] theorem fl_ex {α : Type} {e : Exn} {k : α → Fl} : (Re.ex e : Re α).fl Γ k = .ex e Γ := rfl
@[simp] theorem fl_bad {α : Type} {k : α → Fl} : (Re.bad : Re α).fl Γ k = .bad := rfl
@[simp] theorem sNil_at : sNil Γ = .nx Γ := rfl
@[simp] theorem sSeq_at : sSeq u v Γ = match u Γ with | .nx Γ' => v Γ' | o => o := rfl
@[simp] theorem sIf_at : sIf ft u v Γ = (ft Γ).fl Γ fun b => if b = true then u Γ else v Γ := rfl
@[simp] theorem sRet_at : sRet f Γ = (f Γ).fl Γ fun r => match r with | .bo d => .rt (.fr d) | r => .rt r := rfl
@[simp] theorem sEx_at : sEx f Γ = (f Γ).fl Γ fun _ => .nx Γ := rfl
@[simp] theorem sSet_at {i : Nat} : sSet i f Γ = (f Γ).fl Γ (setR i Γ) := rfl
@[simp] theorem setR_sh {i : Nat} {d : D} : setR i Γ (.sh d) = .nx (Γ.set i (some (.sh d))) := rfl
@[simp] theorem setR_fr {i : Nat} {d : D} : setR i Γ (.fr d) = .nx (Γ.set i (some (.fr d))) := rfl
@[simp] theorem sFrz_at {i : Nat} : sFrz i u Γ = u (frz i Γ) := rfl
@[simp] theorem frz_0 {a : Option Rv} {r : Env'} : frz 0 (a :: r) = (match (a : Option Rv) with | some (.fr d) => some (.sh d) | o => o) :: r := by
  cases a with
  | none => rfl
  | some x => cases x <;> rfl
theorem frz_len (i : Nat) (Γ : Env') : (frz i Γ).length = Γ.length := by unfold frz; split <;> simp
@[simp] theorem frz_s {i : Nat} {a : Option Rv} {r : Env'} : frz (i + 1) (a :: r) = a :: frz i r := by
  unfold frz
  rw [List.getElem?_cons_succ]
  cases h : r[i]? with
  | none => rfl
  | some o =>
    cases o with
    | none => rfl
    | some x => cases x <;> rfl
@[simp] theorem sFor_at {t : Tg} : sFor fi t u Γ = (fi Γ).fl Γ fun ds => forL t u ds Γ := rfl
@[simp] theorem sWh_at {n : Nat} : sWh n ft u Γ = whL ft u n Γ := rfl
@[simp] theorem sRaise_at {x : Str} : sRaise x Γ = .ex ⟨x, none⟩ Γ := rfl
@[simp] theorem sAsg_at {t : Tg} : sAsg t f Γ = (f Γ).fl Γ fun r => match r with | .sh d => (match t.set d Γ with | some Γ' => .nx Γ' | none => .bad) | _ => .bad := rfl
@[simp] theorem sAsgT_at {s : D → Env' → Re Env'} : sAsgT s f Γ = (f Γ).fl Γ fun r => (share r).fl Γ fun d => match s d Γ with | .ok Γ' => .nx Γ' | _ => .bad := rfl
@[simp] theorem one_set {i : Nat} {d : D} : Tg.set (.one i) d Γ = some (Γ.set i (some (.sh d))) := rfl
@[simp] theorem tup_set {is : List Nat} {ds : List D} : Tg.set (.tup is) (.t ds) Γ = setN is ds Γ := rfl
@[simp] theorem setN_nil : setN [] [] Γ = some Γ := rfl
@[simp] theorem setN_cons {i : Nat} {is : List Nat} {d : D} {ds : List D} : setN (i :: is) (d :: ds) Γ = setN is ds (Γ.set i (some (.sh d))) := rfl
@[simp] theorem sApp_at {i : Nat} : sApp i f Γ = match Γ[i]? with
  | some (some (.fr (.l ds))) => (f Γ).fl Γ fun r => (share r).fl Γ fun d => if ds.length < 16777216 then .nx (Γ.set i (some (.fr (.l (ds ++ [d]))))) else .bad
  | _ => .bad := rfl
@[simp] theorem wipeG_nil : wipeG Γ [] = Γ := rfl
@[simp] theorem wipeG_cons {i : Nat} {is : List Nat} : wipeG Γ (i :: is) = (wipeG Γ is).set i none := rfl
@[simp] theorem Rv.d_sh {d : D} : (Rv.sh d).d = d := rfl
@[simp] theorem Rv.d_fr {d : D} : (Rv.fr d).d = d := rfl
@[simp] theorem Rv.d_bo {d : D} : (Rv.bo d).d = d := rfl
@[simp] theorem kI_i {k : Int → Int → Re Rv} {a b : Int} : kI k (.sh (.i a)) (.sh (.i b)) = k a b := rfl
@[simp] theorem kAdd_i {a b : Int} : kAdd (.sh (.i a)) (.sh (.i b)) = .ok (.sh (.i (a + b))) := rfl
@[simp] theorem kSub_i {a b : Int} : kSub (.sh (.i a)) (.sh (.i b)) = .ok (.sh (.i (a - b))) := rfl
@[simp] theorem kLt_i {a b : Int} : kLt (.sh (.i a)) (.sh (.i b)) = .ok (.sh (.b (decide (a < b)))) := rfl
@[simp] theorem kLe_i {a b : Int} : kLe (.sh (.i a)) (.sh (.i b)) = .ok (.sh (.b (decide (a ≤ b)))) := rfl
@[simp] theorem kGt_i {a b : Int} : kGt (.sh (.i a)) (.sh (.i b)) = .ok (.sh (.b (decide (b < a)))) := rfl
@[simp] theorem kGe_i {a b : Int} : kGe (.sh (.i a)) (.sh (.i b)) = .ok (.sh (.b (decide (b ≤ a)))) := rfl
theorem kMod_i {a b : Int} (h : 0 < b) : kMod (.sh (.i a)) (.sh (.i b)) = .ok (.sh (.i (a % b))) := by unfold kMod; rw [kI_i, if_pos h]; rfl
theorem kDiv_i {a b : Int} (h : 0 < b ∧ b < 1073741824) : kDiv (.sh (.i a)) (.sh (.i b)) = .ok (.sh (.i (a / b))) := by unfold kDiv; rw [kI_i, if_pos h]; rfl
theorem kMul_l {a b : Int} (h : -(2 ^ 64) < a ∧ a < 2 ^ 64) : kMul (.sh (.i a)) (.sh (.i b)) = .ok (.sh (.i (a * b))) := by unfold kMul; simp only [Rv.d]; rw [if_pos (.inl h)]; rfl
theorem kMul_r {a b : Int} (h : -(2 ^ 64) < b ∧ b < 2 ^ 64) : kMul (.sh (.i a)) (.sh (.i b)) = .ok (.sh (.i (a * b))) := by unfold kMul; simp only [Rv.d]; rw [if_pos (.inr h)]; rfl
theorem kPow_i {a b : Int} (h : 0 ≤ b ∧ b ≤ 1000000 ∧ a.natAbs < 2 ^ 64) : kPow (.sh (.i a)) (.sh (.i b)) = .ok (.sh (.i (a ^ b.toNat))) := by unfold kPow; rw [kI_i, if_pos h]; rfl
@[simp] theorem kNeg_i {a : Int} : kNeg (.sh (.i a)) = .ok (.sh (.i (-a))) := rfl
@[simp] theorem kSl_z {ds : List D} {lo hi : Option Int} : kSl (.sh (.z ds)) lo hi = .ok (.fr (.l (cut ds lo hi))) := rfl
@[simp] theorem kSl_l {ds : List D} {lo hi : Option Int} : kSl (.sh (.l ds)) lo hi = .ok (.fr (.l (cut ds lo hi))) := rfl
@[simp] theorem kSl_bl {ds : List D} {lo hi : Option Int} : kSl (.bo (.l ds)) lo hi = .ok (.fr (.l (cut ds lo hi))) := rfl
@[simp] theorem kSl_fl {ds : List D} {lo hi : Option Int} : kSl (.fr (.l ds)) lo hi = .ok (.fr (.l (cut ds lo hi))) := rfl
theorem cut_map {α β : Type} (f : α → β) (xs : List α) (lo hi : Option Int) : cut (xs.map f) lo hi = (cut xs lo hi).map f := by
  unfold cut
  simp [List.map_take, List.map_drop]
theorem cut_length_le {α : Type} (xs : List α) (lo hi : Option Int) : (cut xs lo hi).length ≤ xs.length := by
  unfold cut
  simp only [List.length_take, List.length_drop]
  omega
theorem cut_mem {α : Type} {xs : List α} {lo hi : Option Int} {x : α} (h : x ∈ cut xs lo hi) : x ∈ xs := List.mem_of_mem_drop (List.mem_of_mem_take h)
theorem cut_to {α : Type} {xs : List α} {n : Nat} (h : n ≤ xs.length) : cut xs none (some (n : Int)) = xs.take n := by
  have e1 : HT.sIx xs.length 0 none = 0 := rfl
  have e2 : HT.sIx xs.length xs.length (some (n : Int)) = n := by simp only [HT.sIx]; split <;> omega
  unfold cut
  rw [e1, e2]
  simp
theorem cut_from {α : Type} {xs : List α} {n : Nat} (h : n ≤ xs.length) : cut xs (some (n : Int)) none = xs.drop n := by
  have e1 : HT.sIx xs.length xs.length none = xs.length := rfl
  have e2 : HT.sIx xs.length 0 (some (n : Int)) = n := by simp only [HT.sIx]; split <;> omega
  unfold cut
  rw [e1, e2]
  rw [List.take_of_length_le]
  simp
theorem cut_ab {α : Type} {xs : List α} {a b : Nat} (ha : a ≤ xs.length) (hb : b ≤ xs.length) : cut xs (some (a : Int)) (some (b : Int)) = (xs.drop a).take (b - a) := by
  have e1 : HT.sIx xs.length xs.length (some (b : Int)) = b := by simp only [HT.sIx]; split <;> omega
  have e2 : HT.sIx xs.length 0 (some (a : Int)) = a := by simp only [HT.sIx]; split <;> omega
  unfold cut
  rw [e1, e2]
theorem itR_ok {a b : Int} (h : rgb a b = true) : itR a b = .ok (rgD a b) := by unfold itR; rw [if_pos h]
theorem rgD_nat (n : Nat) : rgD 0 n = (List.range n).map fun i => D.i ((i : Nat) : Int) := by unfold rgD; simp
theorem rgD_get {a b : Int} {i : Nat} {d : D} (h : (rgD a b)[i]? = some d) : d = .i (a + (i : Nat)) ∧ a + (i : Nat) < b := by
  unfold rgD at h
  rw [List.getElem?_map] at h
  by_cases hl : i < (b - a).toNat
  · rw [List.getElem?_range hl] at h
    cases h
    exact ⟨rfl, by omega⟩
  · rw [List.getElem?_eq_none (by simpa using hl)] at h; cases h
@[simp] theorem kLen_l {ds : List D} : kLen (.sh (.l ds)) = .ok (.sh (.i ds.length)) := rfl
@[simp] theorem kLen_fl {ds : List D} : kLen (.fr (.l ds)) = .ok (.sh (.i ds.length)) := rfl
@[simp] theorem kLen_bl {ds : List D} : kLen (.bo (.l ds)) = .ok (.sh (.i ds.length)) := rfl
@[simp] theorem kLen_t {ds : List D} : kLen (.sh (.t ds)) = .ok (.sh (.i ds.length)) := rfl
@[simp] theorem kLen_z {ds : List D} : kLen (.sh (.z ds)) = .ok (.sh (.i ds.length)) := rfl
def ixR (ds : List D) (k : Int) : Re Rv := match atI ds k with | some d => .ok (.sh d) | none => .bad
@[simp] theorem kIx_l {ds : List D} {k : Int} : kIx (.sh (.l ds)) (.sh (.i k)) = ixR ds k := rfl
@[simp] theorem kIx_fl {ds : List D} {k : Int} : kIx (.fr (.l ds)) (.sh (.i k)) = ixR ds k := rfl
@[simp] theorem kIx_bl {ds : List D} {k : Int} : kIx (.bo (.l ds)) (.sh (.i k)) = ixR ds k := rfl
@[simp] theorem kIx_t {ds : List D} {k : Int} : kIx (.sh (.t ds)) (.sh (.i k)) = ixR ds k := rfl
@[simp] theorem kIx_z {ds : List D} {k : Int} : kIx (.sh (.z ds)) (.sh (.i k)) = ixR ds k := rfl
theorem atI_is {α : Type} {xs : List α} {k : Int} {n : Nat} {x : α} (e : k = (n : Int)) (h : xs[n]? = some x) : atI xs k = some x := by
  have hl : n < xs.length := (List.getElem?_eq_some_iff.mp h).1
  unfold atI ixN
  subst e
  rw [if_pos (Int.natCast_nonneg _), if_pos (by omega)]
  simpa using h
theorem ixR_is {ds : List D} {k : Int} {n : Nat} {d : D} (e : k = (n : Int)) (h : ds[n]? = some d) : ixR ds k = .ok (.sh d) := by unfold ixR; rw [atI_is e h]
@[simp] theorem ixR_0 {d : D} {ds : List D} : ixR (d :: ds) 0 = .ok (.sh d) := ixR_is (n := 0) rfl rfl
@[simp] theorem ixR_1 {a d : D} {ds : List D} : ixR (a :: d :: ds) 1 = .ok (.sh d) := ixR_is (n := 1) rfl rfl
@[simp] theorem ixR_2 {a b d : D} {ds : List D} : ixR (a :: b :: d :: ds) 2 = .ok (.sh d) := ixR_is (n := 2) rfl rfl
@[simp] theorem ixR_3 {a b e d : D} {ds : List D} : ixR (a :: b :: e :: d :: ds) 3 = .ok (.sh d) := ixR_is (n := 3) rfl rfl
theorem ixR_row {row : List Int} {k : Int} {n : Nat} (e : k = (n : Int)) (h : n < row.length) : ixR (row.map D.i) k = .ok (.sh (.i row[n])) := ixR_is e (by simp [h])
theorem cut_row_from {row : List Int} {k : Int} {n : Nat} (e : k = (n : Int)) (h : n ≤ row.length) : cut (row.map D.i) (some k) none = (row.drop n).map D.i := by
  subst e
  rw [cut_map, cut_from h]
theorem cut_row_ab {row : List Int} {j k : Int} {a b : Nat} (e1 : j = (a : Int)) (e2 : k = (b : Int)) (ha : a ≤ row.length) (hb : b ≤ row.length) : cut (row.map D.i) (some j) (some k) = ((row.drop a).take (b - a)).map D.i := by
  subst e1 e2
  rw [cut_map, cut_ab ha hb]
theorem forL_inv {t : Tg} {I : Env' → Prop} : ∀ {ds : List D} {Γ : Env'}, I Γ → (∀ d ∈ ds, ∀ Γ, I Γ → ∃ Γ1, t.set d Γ = some Γ1 ∧ ∃ Γ', (u Γ1 = .nx Γ' ∨ u Γ1 = .ct Γ') ∧ I Γ') → ∃ Γ', forL t u ds Γ = .nx Γ' ∧ I Γ'
  | [], Γ, h, _ => ⟨Γ, rfl, h⟩
  | d :: ds, Γ, h, hs => by
    obtain ⟨Γ1, e1, Γ', e2, h'⟩ := hs d List.mem_cons_self Γ h
    obtain ⟨Γ2, e3, h2⟩ := forL_inv (ds := ds) h' fun d' hd => hs d' (List.mem_cons_of_mem _ hd)
    refine ⟨Γ2, ?_, h2⟩
    unfold forL
    rw [e1]
    rcases e2 with e2 | e2 <;> (dsimp only; rw [e2]; exact e3)
theorem forL_at {t : Tg} {I : Nat → Env' → Prop} {ds : List D} (n : Nat) : ∀ {m : Nat} {Γ : Env'}, m + n = ds.length → I m Γ → (∀ i d, m ≤ i → ds[i]? = some d → ∀ Γ, I i Γ → ∃ Γ1, t.set d Γ = some Γ1 ∧ ∃ Γ', (u Γ1 = .nx Γ' ∨ u Γ1 = .ct Γ') ∧ I (i + 1) Γ') →
    ∃ Γ', forL t u (ds.drop m) Γ = .nx Γ' ∧ I ds.length Γ' := by
  induction n with
  | zero =>
    intro m Γ hm h _
    have e : m = ds.length := by omega
    subst e
    rw [List.drop_length]
    exact ⟨Γ, rfl, h⟩
  | succ n ih =>
    intro m Γ hm h hs
    have hl : m < ds.length := by omega
    obtain ⟨Γ1, e1, Γ', e2, h'⟩ := hs m ds[m] (Nat.le_refl _) (by simp [hl]) Γ h
    obtain ⟨Γ2, e3, h2⟩ := ih (m := m + 1) (by omega) h' fun i d hi hd => hs i d (by omega) hd
    refine ⟨Γ2, ?_, h2⟩
    rw [List.drop_eq_getElem_cons hl]
    unfold forL
    rw [e1]
    rcases e2 with e2 | e2 <;> (dsimp only; rw [e2]; exact e3)
theorem forL_num {t : Tg} {I : Nat → Env' → Prop} {ds : List D} {Γ : Env'} (h : I 0 Γ) (hs : ∀ i d, ds[i]? = some d → ∀ Γ, I i Γ → ∃ Γ1, t.set d Γ = some Γ1 ∧ ∃ Γ', (u Γ1 = .nx Γ' ∨ u Γ1 = .ct Γ') ∧ I (i + 1) Γ') :
    ∃ Γ', forL t u ds Γ = .nx Γ' ∧ I ds.length Γ' := by
  have := forL_at (t := t) (u := u) (I := I) (ds := ds) ds.length (m := 0) (by omega) h fun i d _ hd => hs i d hd
  rwa [List.drop_zero] at this
theorem whL_inv {I : Nat → Env' → Prop} : ∀ (n m : Nat) {Γ : Env'}, m < n → I m Γ → (∀ m Γ, I m Γ → (m = 0 ∧ ft Γ = .ok false) ∨ ∃ m', m = m' + 1 ∧ ft Γ = .ok true ∧ ∃ Γ', (u Γ = .nx Γ' ∨ u Γ = .ct Γ') ∧ I m' Γ') → ∃ Γ', whL ft u n Γ = .nx Γ' ∧ I 0 Γ'
  | 0, m, Γ, hm, _, _ => absurd hm (Nat.not_lt_zero _)
  | n + 1, m, Γ, hm, h, hs => by
    rcases hs m Γ h with ⟨e, e1⟩ | ⟨m', e, e1, Γ', e2, h'⟩
    · subst e
      refine ⟨Γ, ?_, h⟩
      unfold whL
      rw [e1]; rfl
    · subst e
      obtain ⟨Γ2, e3, h2⟩ := whL_inv n m' (by omega) h' hs
      refine ⟨Γ2, ?_, h2⟩
      unfold whL
      rw [e1, fl_ok, if_pos rfl]
      rcases e2 with e2 | e2 <;> (rw [e2]; exact e3)
end
end Ly
end

section
set_option maxRecDepth 100000
namespace Ly
open PySem PySem.Spec L2
open PyProof.Rows hiding St
section
variable {Γ : Env'}
@[simp] theorem kEq_i {a b : Int} : kEq (.sh (.i a)) (.sh (.i b)) = .ok (.sh (.b (decide (a = b)))) := by
  unfold kEq
  rw [if_pos ⟨rfl, rfl⟩]
  show okb (a == b) = _
  rfl
@[simp] theorem kNe_i {a b : Int} : kNe (.sh (.i a)) (.sh (.i b)) = .ok (.sh (.b (!decide (a = b)))) := by
  unfold kNe
  rw [if_pos ⟨rfl, rfl⟩]
  rfl
@[simp] theorem kMin2_i {a b : Int} : kMin2 (.sh (.i a)) (.sh (.i b)) = .ok (.sh (.i (if b < a then b else a))) := rfl
@[simp] theorem kMax2_i {a b : Int} : kMax2 (.sh (.i a)) (.sh (.i b)) = .ok (.sh (.i (if b > a then b else a))) := rfl
def dsame : Nat → D → Bool
  | _, .n => true | _, .b _ => true | _, .i _ => true | _, .s x => PyData.strOk x
  | n + 1, .l xs => xs.all (dsame n) && decide (xs.length ≤ 16777216) | n + 1, .t xs => xs.all (dsame n) && decide (xs.length ≤ 16777216)
  | _, _ => false
theorem lcL_same {t : Tg} {fe : FE} {y : D} {Γ0 : Env'} : ∀ {ds : List D}, (∀ d ∈ ds, ∃ Γ1, t.set d Γ0 = some Γ1 ∧ ∃ r, fe Γ1 = .ok r ∧ share r = .ok y) → lcL t tYesF fe Γ0 ds = .ok (List.replicate ds.length y)
  | [], _ => rfl
  | d :: ds, h => by
    obtain ⟨Γ1, e1, r, e2, e3⟩ := h d List.mem_cons_self
    have hs : lcStep t tYesF fe Γ0 d = .ok [y] := by
      unfold lcStep
      rw [e1]
      simp [tYesF, e2, e3]
    unfold lcL
    rw [hs, lcL_same fun d' hd => h d' (List.mem_cons_of_mem _ hd)]
    rfl
theorem bools_rep (n : Nat) : D.bools (List.replicate n (.b true)) = some (List.replicate n true) := by
  induction n with
  | zero => rfl
  | succ n ih => rw [List.replicate_succ, D.bools, ih]; rfl
theorem kAll_rep (n : Nat) : kAll (.fr (.l (List.replicate n (.b true)))) = .ok (.sh (.b true)) := by
  unfold kAll
  simp only [Rv.d, D.seq?, bools_rep]
  simp [okb]
theorem lcRes_ok {ys : List D} (h : ys.length ≤ 16777216) : lcRes (.ok ys) = .ok (.fr (.l ys)) := by
  unfold lcRes
  exact if_pos h
theorem lcRes_rep {n : Nat} {y : D} (h : n ≤ 16777216) : lcRes (.ok (List.replicate n y)) = .ok (.fr (.l (List.replicate n y))) := lcRes_ok (by rw [List.length_replicate]; exact h)
theorem lcL_map {t : Tg} {fe : FE} {Γ0 : Env'} : ∀ {ds : List D} {g : D → D}, (∀ d ∈ ds, ∃ Γ1, t.set d Γ0 = some Γ1 ∧ ∃ r, fe Γ1 = .ok r ∧ share r = .ok (g d)) → lcL t tYesF fe Γ0 ds = .ok (ds.map g)
  | [], _, _ => rfl
  | d :: ds, g, h => by
    obtain ⟨Γ1, e1, r, e2, e3⟩ := h d List.mem_cons_self
    have hs : lcStep t tYesF fe Γ0 d = .ok [g d] := by
      unfold lcStep
      rw [e1]
      simp [tYesF, e2, e3]
    unfold lcL
    rw [hs, lcL_map fun d' hd => h d' (List.mem_cons_of_mem _ hd)]
    rfl
end
end Ly
end

section
set_option maxRecDepth 100000
namespace Ly
open PySem PySem.Spec L2
open PyProof.Rows hiding St
variable [Tb]
inductive Src where
  | p (i : Nat) | d (i : Nat) | k (i : Nat)
def gp {α : Type} : List Src → List α → List α → List α → List α
  | [], _, _, _ => []
  | .p i :: r, us, ds, ws => us[i]?.toList ++ gp r us ds ws
  | .d i :: r, us, ds, ws => ds[i]?.toList ++ gp r us ds ws
  | .k i :: r, us, ds, ws => ws[i]?.toList ++ gp r us ds ws
theorem vals_at {xs : List V} {us : List Value} (i : Nat) (r : Vals xs us) : Vals xs[i]?.toList us[i]?.toList := by
  cases h : xs[i]? with
  | none =>
    have : us[i]? = none := by rw [List.getElem?_eq_none_iff] at h ⊢; rw [← r.length]; exact h
    rw [this]; exact .nil
  | some x =>
    obtain ⟨u, hu, rx⟩ := r.get h
    rw [hu]; exact .cons rx .nil
theorem reps_at {K : PySem.W.Frag} {G : Hp} {xs : List V} {ds : List D} (i : Nat) (r : Reps K G xs ds) : Reps K G xs[i]?.toList ds[i]?.toList := by
  cases h : xs[i]? with
  | none =>
    have : ds[i]? = none := by rw [List.getElem?_eq_none_iff] at h ⊢; rw [← r.length]; exact h
    rw [this]; exact .nil
  | some x =>
    obtain ⟨u, hu, rx⟩ := r.get h
    rw [hu]; exact .cons rx .nil
theorem gp_vals : ∀ (l : List Src) {vs ds zs : List V} {us its ws : List Value}, Vals vs us → Vals ds its → Vals zs ws → Vals (gp l vs ds zs) (gp l us its ws)
  | [], _, _, _, _, _, _, _, _, _ => .nil
  | .p i :: l, _, _, _, _, _, _, a, b, c => (vals_at i a).append (gp_vals l a b c)
  | .d i :: l, _, _, _, _, _, _, a, b, c => (vals_at i b).append (gp_vals l a b c)
  | .k i :: l, _, _, _, _, _, _, a, b, c => (vals_at i c).append (gp_vals l a b c)
theorem gp_reps {K : PySem.W.Frag} {G : Hp} : ∀ (l : List Src) {vs ds zs : List V} {us its ws : List D}, Reps K G vs us → Reps K G ds its → Reps K G zs ws → Reps K G (gp l vs ds zs) (gp l us its ws)
  | [], _, _, _, _, _, _, _, _, _ => .nil
  | .p i :: l, _, _, _, _, _, _, a, b, c => (reps_at i a).append (gp_reps l a b c)
  | .d i :: l, _, _, _, _, _, _, a, b, c => (reps_at i b).append (gp_reps l a b c)
  | .k i :: l, _, _, _, _, _, _, a, b, c => (reps_at i c).append (gp_reps l a b c)
abbrev FnD (K : PySem.W.Frag) (x : Str) (st : Stmt) (dvs : List V) (f : Addr) (fd : FuncData) : Prop := FunD K x x (defArgs st) (defBody st) (defScope st) dvs [] f fd
theorem fnD_mk {K : PySem.W.Frag} {x : Str} {st : Stmt} {f T : Addr} {oc oc2 : Value} {od od2 an : Option Addr} {osl sl2 : Array (Option Value)} {kV doc pm cdv ct : Value} {dvs : List V} {its : List Value} {n : Nat}
    (l : K.lookup f = some ⟨oc, od, .func (PySem.W.fnOf x x (defArgs st) (defBody st) (defScope st) (.ref T) kV doc pm an cdv ct), osl⟩) (c : PySem.W.codeIn K cdv x = true) (k : PySem.W.keepIn K (.ref f) = true)
    (lT : K.lookup T = some ⟨oc2, od2, .seq its.toArray n, sl2⟩) (rv : Vals dvs its) (ne : dvs ≠ []) : FnD K x st dvs f (PySem.W.fnOf x x (defArgs st) (defBody st) (defScope st) (.ref T) kV doc pm an cdv ct) :=
  ⟨⟨oc, od, .ref T, kV, doc, pm, an, cdv, ct, osl, rfl, l, c, .inr ⟨ne, T, _, its, n, rfl, lT, rfl, rv⟩, .inl rfl⟩, k⟩
section
variable {P : Program} {w : World} {K : PySem.W.Frag} {mg : Str → Option Value} {base : Heap}
theorem def_fnD {x : Str} {st : Stmt} {f : Addr} {fd : FuncData} {dvs : List V} {N ps : List Str} {k n m : Nat} {body : FS} (F : FnD K x st dvs f fd) (S : FnScope N ps (defScope st))
    (hn : ps.length = n) (hN : N.length = m)
    (h : ∀ (cdv : Value) (A : Around) (outer : List Env) (s : Shared) (H G : Hp) (E : XK), Room k (A.deeper (envOfC x (defScope st) s.heap.objs.size f cdv)) →
      Cy (cxOf (L2N.CX P w) P w K mg base N x (defScope st) f cdv A outer s H E) (dLc K mg H G E) →
      PassesOwn (model P w) (A.deeper (envOfC x (defScope st) s.heap.objs.size f cdv)) (envOfC x (defScope st) s.heap.objs.size f cdv) (cxOf (L2N.CX P w) P w K mg base N x (defScope st) f cdv A outer s H E).xe →
      PSs (cxOf (L2N.CX P w) P w K mg base N x (defScope st) f cdv A outer s H E) (defBody st) (tS (dLc K mg H G E) body)) : FnOk P w K mg base (L2N.CX P w) (k + 1) f fd ps (spF K mg n (runF n m body)) := by
  refine F.ok S (fun vs H Q E hs => ?_) (fun cdv A outer s H vs Q E hr hs => ?_)
  · obtain ⟨G, ds, hl, gh, r, _⟩ := hs
    rw [r.length, hl, hn]
  · obtain ⟨G, ds, hl, gh, r, q⟩ := hs
    have cy : Cy (cxOf (L2N.CX P w) P w K mg base N x (defScope st) f cdv A outer s H E) (dLc K mg H G E) := ⟨rfl, rfl, L2N.takes_of rfl rfl rfl rfl, rfl, S.nd, hr.units⟩
    refine ⟨_, h cdv A outer s H G E hr cy (passes_of (X := cxOf (L2N.CX P w) P w K mg base N x (defScope st) f cdv A outer s H E) rfl), G, _, start_env gh r, ?_⟩
    have gr : ∀ {G' H' : Hp}, EndOk (dLc K mg H G E) G' H' → Gr G H G' H' := fun e => ⟨e.bh, e.g0, e.gh, e.gf, fun _ => e.gt, fun _ => e.tb⟩
    unfold runF at q
    rw [if_pos hl] at q
    rw [hN, hl]
    cases eb : body (ds.map (fun d => some (.sh d)) ++ List.replicate (m - n) none) with
    | nx Γ' => rw [eb] at q; exact fun σ' G' H' he s => q .non G' H' (gr he.end) .n
    | rt rv =>
      rw [eb] at q
      cases rv with
      | sh d => exact fun v G' H' he s hv _ => q v G' H' (gr he) hv
      | fr d => exact fun v G' H' he s ⟨p, e, bp, gp, o⟩ _ => by subst e; exact q p G' H' (gr he) bp gp o
      | bo d => exact fun v G' H' he s hv hn => absurd rfl (hn d)
    | ex e Γ' => rw [eb] at q; exact fun σ' G' H' he s C d hC hd => q G' H' (gr he.end) C d hC hd
    | bk Γ' => rw [eb] at q; exact q.elim
    | ct Γ' => rw [eb] at q; exact q.elim
    | bad => rw [eb] at q; exact q.elim
theorem bindsD {x : Str} {st : Stmt} {f : Addr} {fd : FuncData} {dvs : List V} {ps : List Str} (F : FnD K x st dvs f fd) (ne : dvs ≠ [])
    (h : ∀ (T : Addr) (kV doc pm : Value) (an : Option Addr) (cdv ct : Value) (us its : List Value), us.length = ps.length → its.length = dvs.length →
      ∃ k, bindArgs (PySem.W.fnOf x x (defArgs st) (defBody st) (defScope st) (.ref T) kV doc pm an cdv ct) ⟨us, []⟩ = seqItems? (.ref T) >>= k ∧ k (some its.toArray) = pure (ps.zip us)) : Binds K fd ps [] := by
  obtain ⟨ds, hv, hb⟩ := FunD.binds1 (ps := ps) F ps.length dvs.length ne (by omega) (fun T kV doc pm an cdv ct us its e1 e2 => by
    rw [List.drop_eq_nil_of_le (Nat.le_of_eq e2), List.append_nil]; exact h T kV doc pm an cdv ct us its e1 e2)
  rw [List.drop_length] at hv
  cases hv
  exact hb
structure DefOkK (P : Program) (w : World) (K : PySem.W.Frag) (mg : Str → Option Value) (base : Heap) (k : Nat) (x : Str) (n : Nat) (ks : List Str) (l : List Src) (dds : List D) (nn : Nat) (F : List D → Re Rv) : Prop where
  ex : ∃ (f : Addr) (fd : FuncData) (ps : List Str) (its : List Value) (dvs : List V), mg x = some (.ref f) ∧ PySem.W.keepIn K (.ref f) = true ∧ KBn K fd ps n ks (fun us ws => gp l us its ws) (fun vs zs => gp l vs dvs zs) ∧
    (∀ G, Reps K G dvs dds) ∧ FnOk P w K mg base (L2N.CX P w) k f fd ps (spF K mg nn F)
theorem defK_mk {x : Str} {st : Stmt} {f : Addr} {fd : FuncData} {dvs : List V} {ps : List Str} {k : Nat} {nn : Nat} {dds : List D} {F : List D → Re Rv} (n : Nat) (ks : List Str) (l : List Src) (hm : mg x = some (.ref f)) (D1 : FnD K x st dvs f fd) (ne : dvs ≠ [])
    (hd : ∀ G, Reps K G dvs dds) (ok : FnOk P w K mg base (L2N.CX P w) k f fd ps (spF K mg nn F))
    (h : ∀ (T : Addr) (kV doc pm : Value) (an : Option Addr) (cdv ct : Value) (us its ws : List Value), us.length = n → its.length = dvs.length → ws.length = ks.length →
      ∃ k, bindArgs (PySem.W.fnOf x x (defArgs st) (defBody st) (defScope st) (.ref T) kV doc pm an cdv ct) ⟨us, ks.zip ws⟩ = seqItems? (.ref T) >>= k ∧ k (some its.toArray) = pure (ps.zip (gp l us its ws))) : DefOkK P w K mg base k x n ks l dds nn F := by
  obtain ⟨its, hb⟩ := FunD.kbindsD D1 n ks (fun {α} => gp (α := α) l) ne (gp_vals l) h
  exact ⟨f, fd, ps, its, dvs, hm, D1.kp, hb, hd, ok⟩
end
def eCallK (n m : Nat) (l : List Src) (dds : List D) (nn : Nat) (F : List D → Re Rv) (fa fk : FA) : FE := fun Γ => (fa Γ).bind fun ds => (fk Γ).bind fun zs => if ds.length = n ∧ zs.length = m ∧ (gp l ds dds zs).length = nn then (match F (gp l ds dds zs) with
  | .ok (.bo _) => .bad | r => r) else .bad
section
variable {X : Cx} {c : LC} {a b e : Expr} {es : List Expr} {f g h : FE} {fa fk : FA} {pos kpos : Pos} {kws : List Keyword} {nm : Option Str}
theorem PK.weak {t t' : TA} (ha : PK X kws t) (w : ∀ σ H Q, t' σ H Q → t σ H Q) : PK X kws t' := ⟨fun pos pins s σ H Q I q => ha.run pos pins s σ H Q I (w σ H Q q)⟩
theorem rk_nil : PK X [] (tA c aNil) := PK.weak pk_nil fun σ H Q ⟨G, Γ, he, q⟩ => q [] G H (.refl he.gh) .nil
theorem rk_cons (ha : PE X e (tE c f)) (hr : PK X kws (tA c fa)) : PK X (⟨nm, e, kpos⟩ :: kws) (tA c (aCons f fa)) := by
  refine PK.weak (pk_cons ha hr) ?_
  rintro σ H Q ⟨G, Γ, he, q⟩
  refine tE_bind0 (P := fun r => PostA c r σ G H Q) he (fun h => h) (fun x h => h) q fun r v G1 H1 _ g1 v1 fr1 q1 => ?_
  cases e1 : share r with
  | bad => rw [e1] at q1; exact q1.elim
  | ex x => rw [e1] at q1; cases r <;> cases e1
  | ok d =>
    rw [e1] at q1
    obtain ⟨G2, g2, s2, rp⟩ := v1.share g1 fr1 e1
    refine tAA (he.mono g2) (PostA.later g2 q1) fun ds vs G3 H3 _ g3 rs he3 q3 => ?_
    exact q3 _ G3 H3 (.refl he3.gh) (.cons (rp.mono g3.gg) rs)
theorem run_fnNS {CX : CXT} {k n : Nat} {f : Addr} {fd : FuncData} {ps ks : List Str} {sp : Sp} {E : St → XK} {g : List Value → List Value → List Value} {gV : List V → List V → List V} {pins : List (Addr × Obj)} {σ : St} {H : Hp} {s : Shared} {Q : VK} {us ws : List Value} {vs zs : List V}
    (F : FnOk X.prog X.w X.K X.mg X.base CX k f fd ps sp) (hr : Room k X.A) (hb : KBn X.K fd ps n ks g gV) (hx : PassesAt CX X σ (E σ)) (I : Inv X pins σ H s) (r : Vals vs us) (rz : Vals zs ws) (l1 : vs.length = n) (l2 : zs.length = ks.length) (h : sp (gV vs zs) H Q (E σ)) :
    wpAny (model X.prog X.w) X.A (call (.ref f) us (ks.zip ws)) (EP X pins σ Q) X.xe s :=
  wpAny_call (codeAny_mono (F.run X.A X.stack s H ⟨us, ks.zip ws⟩ (g us ws) (gV vs zs) Q (E σ) hr I.env0 (hb.to s us ws I.kIn (r.length.symm.trans l1) (rz.length.symm.trans l2)) (hb.rel r rz) h) fun o s' hq => by
    cases o with
    | error e => exact hx pins H s e s' I hq
    | ok fl => cases fl with
      | ret u => exact I.after hq
      | next => exact False.elim hq
      | brk => exact False.elim hq
      | cont => exact False.elim hq)
def tCallNS (n m : Nat) (sp : Sp) (gV : List V → List V → List V) (E : St → XK) (t tk : TA) : TE := fun σ H Q => t σ H fun vs H1 => tk σ H1 fun zs H2 => vs.length = n ∧ zs.length = m ∧ sp (gV vs zs) H2 Q (E σ)
theorem pe_callNS {CX : CXT} {k n : Nat} {f : Addr} {fd : FuncData} {ps ks : List Str} {sp : Sp} {E : St → XK} {x : Str} {p : Pos} {t tk : TA} {g : List Value → List Value → List Value} {gV : List V → List V → List V}
    (F : FnOk X.prog X.w X.K X.mg X.base CX k f fd ps sp) (hr : Room k X.A) (hg : Gl X x) (hm : X.mg x = some (.ref f)) (hk : PySem.W.keepIn X.K (.ref f) = true) (hb : KBn X.K fd ps n ks g gV) (hx : ∀ σ, PassesAt CX X σ (E σ)) (ha : PA X (e :: es) t) (hkw : PK X kws tk)
    (hdb : (x == ("__debug__" : Str)) = false) (he : starEach (e :: es) X.env = (false, eval e X.env) :: starEach es X.env) (hpl : ((backTo pos (starEach (e :: es) X.env)).any (·.1) || (backToKw pos (keywordEach kws X.env)).any (·.1.isNone)) = false)
    (hall : (backToKw pos (keywordEach kws X.env)).all (·.1.isSome) = true) (hks : (backToKw pos (keywordEach kws X.env)).filterMap (·.1) = ks) : PE X (.Call (.Name x p) (e :: es) kws pos) (tCallNS n ks.length sp gV E t tk) :=
  ⟨fun pins s σ H Q I h => wpAny_Call_Name_kw (ld_glob I hg hm (PySem.W.callWith_KW (h₀ := X.base) I.ok.mod.kin hk hall (thn (ha.run pos pins s σ H _ I h) fun us s1 ⟨vs, H1, I1, r, q⟩ => thn (hkw.run pos pins s1 σ H1 _ I1 q) fun ws s2 ⟨zs, H2, I2, rz, l1, l2, q2⟩ => ⟨I2.kIn, by
    rw [hks]; exact run_fnNS F hr hb (hx σ) I2 r rz l1 l2 q2⟩) hpl he) hdb)⟩
theorem re_callK (cy : Cy X c) {x : Str} {p : Pos} {k n nn : Nat} {ks : List Str} {l : List Src} {dds : List D} {F : List D → Re Rv} (h : DefOkK X.prog X.w X.K X.mg X.base k x n ks l dds nn F) (hr : Room k X.A) (hg : Gl X x) (ha : PA X (e :: es) (tA c fa)) (hkw : PK X kws (tA c fk))
    (hdb : (x == ("__debug__" : Str)) = false := by decide) (he : starEach (e :: es) X.env = (false, eval e X.env) :: starEach es X.env := by rfl) (hpl : ((backTo pos (starEach (e :: es) X.env)).any (·.1) || (backToKw pos (keywordEach kws X.env)).any (·.1.isNone)) = false := by rfl)
    (hall : (backToKw pos (keywordEach kws X.env)).all (·.1.isSome) = true := by rfl) (hks : (backToKw pos (keywordEach kws X.env)).filterMap (·.1) = ks := by rfl) :
    PE X (.Call (.Name x p) (e :: es) kws pos) (tE c (eCallK n ks.length l dds nn F fa fk)) := by
  obtain ⟨f, fd, ps, its, dvs, h1, h2, h3, hd, h4⟩ := h.ex
  refine PE.weak (pe_callNS (E := WE c.W) h4 hr hg h1 h2 h3 (fun σ => L2N.passAt cy.tk σ) ha hkw hdb he hpl hall hks) ?_
  rintro σ H Q ⟨G, Γ, he, q⟩
  refine tAE he q fun ds vs G1 H1 _ g1 rs he1 q1 => ?_
  refine tAE he1 q1 fun zs us G2 H2 _ g2 rz he2 q2 => ?_
  split at q2
  · rename_i hn
    have rs2 := rs.mono g2.gg
    refine ⟨by rw [rs2.length]; exact hn.1, by rw [rz.length]; exact hn.2.1, G2, gp l ds dds zs, hn.2.2, he2.ok0, by rw [cy.K]; exact gp_reps l rs2 (by rw [← cy.K]; exact hd G2) rz, ?_⟩
    cases eF : F (gp l ds dds zs) with
    | bad => rw [eF] at q2; exact q2
    | ex x => rw [eF] at q2; exact fun G' H' g' C d hC hd => q2 G' H' g' C d (by rw [← cy.mg]; exact hC) (by rw [← cy.K]; exact hd)
    | ok r =>
      rw [eF] at q2
      cases r with
      | sh d => exact fun v G' H' g' rv => q2 v G' H' g' (by rw [cy.K] at rv; exact rv) True.intro
      | fr d => exact fun p' G' H' g' hp gp o => q2 (.ref p') G' H' g' ⟨p', rfl, Kept.non he2.bh hp, gp, by rw [cy.K] at o; exact o⟩ ⟨p', rfl, hp⟩
      | bo d => exact q2
  · exact q2.elim
end
end Ly
end

section
set_option maxRecDepth 100000
namespace Ly
open PySem PySem.Spec L2
open PyProof.Rows hiding St
variable [Tb]
def D.plain : D → Bool
  | .n => true | .b _ => true | .i _ => true | .s _ => true | _ => false
theorem Rep.plain {K : PySem.W.Frag} {G G' : Hp} {v : V} {d : D} (h : Rep K G v d) (e : d.plain = true) : Rep K G' v d := by
  cases h with
  | n => exact .n
  | b x => exact .b x
  | i x => exact .i x
  | s x => exact .s x
  | _ => cases e
def eFz (i : Nat) (f : FE) : FE := fun Γ => match f (frz i Γ) with
  | .ok (.sh d) => if d.plain = true then .ok (.sh d) else .bad
  | .ex x => (match x.fs with | none => .ex x | some _ => .bad)
  | _ => .bad
section
variable {X : Cx} {c : LC} {a : Expr} {f : FE}
theorem re_fz (i : Nat) (ha : PE X a (tE c f)) : PE X a (tE c (eFz i f)) := by
  refine PE.weak ha ?_
  rintro σ H Q ⟨G, Γ, he, q⟩
  obtain ⟨G2, sm, he2⟩ := he.frz i
  refine ⟨G2, frz i Γ, he2, ?_⟩
  unfold eFz at q
  cases e : f (frz i Γ) with
  | bad => rw [e] at q; exact q
  | ex x =>
    rw [e] at q
    obtain ⟨cl, fs⟩ := x
    cases fs with
    | some _ => exact q.elim
    | none => exact fun G' H' g C d hC hd => q G H' (g.less sm) C d hC hd
  | ok r =>
    rw [e] at q
    cases r with
    | fr d => exact q.elim
    | bo d => exact q.elim
    | sh d =>
      dsimp only at q
      split at q
      · rename_i hp
        exact fun v G' H' g rv fr => q v G H' (g.less sm) (Rep.plain rv hp) fr
      · exact q.elim
end
section
variable {Γ : Env'} {f : FE} {i : Nat}
@[simp] theorem eFz_at : eFz i f Γ = match f (frz i Γ) with
  | .ok (.sh d) => if d.plain = true then .ok (.sh d) else .bad
  | .ex x => (match x.fs with | none => .ex x | some _ => .bad)
  | _ => .bad := rfl
theorem itR3_of {f g h : FE} {i j k : Int} (e1 : f Γ = .ok (.sh (.i i))) (e2 : g Γ = .ok (.sh (.i j))) (e3 : h Γ = .ok (.sh (.i k))) (hk : k ≠ 0 ∧ k.natAbs < 1073741824 ∧ Builtin.Range.small i j k = true) :
    itR3 f g h Γ = .ok (rg3 i k (Builtin.Range.rangeSize i j k).toNat) := by
  unfold itR3
  rw [e1, e2, e3]
  exact if_pos hk
theorem deq_refl {d : D} (h : dok 12 d = true) : deq d d = true := PySem.SeqAt.eqv_refl d.py (dok_py 12 d h).1
theorem kNe_refl {d : D} {r s : Rv} (h : dok 12 d = true) (e1 : r.d = d) (e2 : s.d = d) : kNe r s = .ok (.sh (.b false)) := by
  unfold kNe
  rw [e1, e2, if_pos ⟨h, h⟩, deq_refl h]
  rfl
theorem kEq_refl {d : D} {r s : Rv} (h : dok 12 d = true) (e1 : r.d = d) (e2 : s.d = d) : kEq r s = .ok (.sh (.b true)) := by
  unfold kEq
  rw [e1, e2, if_pos ⟨h, h⟩, deq_refl h]
  rfl
@[simp] theorem plain_b {x : Bool} : (D.b x).plain = true := rfl
@[simp] theorem plain_i {x : Int} : (D.i x).plain = true := rfl
end
end Ly
end

section
set_option maxRecDepth 100000
namespace Ly
open PySem PySem.Spec L2
open PyProof.Rows hiding St
variable [Tb]
def dPairs : List (FE × FE) → Env' → Re (List (Key × D))
  | [], _ => .ok []
  | p :: r, Γ => (p.1 Γ).bind fun x => match x.d.key? with
    | none => .bad
    | some k => (p.2 Γ).bind fun y => (share y).bind fun d => (dPairs r Γ).bind fun ps => .ok ((k, d) :: ps)
def mergeD (m : List Key × List D) (ps : List (Key × D)) : List Key × List D := ps.foldl (fun m p => kput m.1 m.2 p.1 p.2) m
def eDisp (fs : List (FE × FE)) : FE := fun Γ => (dPairs fs Γ).bind fun ps => if ps.length ≤ 15 then .ok (.fr (.dk (mergeD ([], []) ps).1 (mergeD ([], []) ps).2)) else .bad
inductive PRep (K : PySem.W.Frag) (G : Hp) : List (Key × V) → List (Key × D) → Prop
  | nil : PRep K G [] []
  | cons {k : Key} {v : V} {d : D} {a : List (Key × V)} {b : List (Key × D)} : Rep K G v d → PRep K G a b → PRep K G ((k, v) :: a) ((k, d) :: b)
theorem PRep.length {K : PySem.W.Frag} {G : Hp} : ∀ {a : List (Key × V)} {b : List (Key × D)}, PRep K G a b → a.length = b.length
  | _, _, .nil => rfl
  | _, _, .cons _ r => congrArg Nat.succ r.length
theorem PRep.merge {K : PySem.W.Frag} {G : Hp} : ∀ {a : List (Key × V)} {b : List (Key × D)} {kvs : List (Key × V)} {ds : List D}, PRep K G a b → Reps K G (kvs.map (·.2)) ds →
    (mergeD (kvs.map (·.1), ds) b).1 = (mergeK kvs a).map (·.1) ∧ Reps K G ((mergeK kvs a).map (·.2)) (mergeD (kvs.map (·.1), ds) b).2
  | _, _, kvs, ds, .nil, r => ⟨rfl, r⟩
  | _, _, kvs, ds, .cons (k := k) (v := v) (d := d) h t, r => by
    obtain ⟨e1, e2⟩ := kput_ok (k := k) r h
    have ih := PRep.merge (kvs := putK kvs k v) t e2
    rw [← e1] at ih
    exact ih
def PostP (c : LC) (re : Re (List (Key × D))) (σ : St) (G H : Hp) (Q : List (V × V) → Hp → Prop) : Prop := match re with
  | .ok ps => ∀ kvs G' H', Gr G H G' H' → PRep c.K G' kvs ps → Q (kvs.map fun kv => (kV kv.1, kv.2)) H'
  | .ex e => ∀ G' H', Gr G H G' H' → ExAt c (fun C d H' => c.W C d σ H') e G' H'
  | .bad => False
section
variable {X : Cx} {c : LC} {pos : Pos}
theorem PostP.later {re : Re (List (Key × D))} {σ : St} {G H G1 H1 : Hp} {Q : List (V × V) → Hp → Prop} (g : Gr G H G1 H1) (h : PostP c re σ G H Q) : PostP c re σ G1 H1 Q := by
  cases re with
  | ok ps => exact fun kvs G' H' g' r => h kvs G' H' (g.trans g') r
  | ex e => exact fun G' H' g' => h G' H' (g.trans g')
  | bad => exact h
theorem pairs_of : ∀ {fs : List (FE × FE)} {σ : St} {G H : Hp} {Γ : Env'} {Q : List (V × V) → Hp → Prop}, EnvOk c G H σ Γ → PostP c (dPairs fs Γ) σ G H Q → tPairs (fs.map fun p => (tE c p.1, tE c p.2)) σ H Q
  | [], σ, G, H, Γ, Q, he, q => q [] G H (.refl he.gh) .nil
  | p :: fs, σ, G, H, Γ, Q, he, q => by
    show tE c p.1 σ H _
    refine tE_bind (P := fun r G H => PostP c r σ G H Q) he (fun _ _ z => z) (fun _ _ _ z => z) (fun _ _ _ _ _ g z => PostP.later g z) q fun rx x G1 H1 _ g1 v1 fr1 he1 q1 => ?_
    cases ek : rx.d.key? with
    | none => rw [ek] at q1; exact q1.elim
    | some k =>
      rw [ek] at q1
      have ex := v1.key ek
      subst ex
      refine tE_bind0 (P := fun r => PostP c r σ G1 H1 Q) he1 (fun z => z) (fun _ z => z) q1 fun ry y G2 H2 _ g2 v2 fr2 q2 => ?_
      cases es : share ry with
      | bad => rw [es] at q2; exact q2.elim
      | ex z => rw [es] at q2; cases ry <;> cases es
      | ok d =>
        rw [es] at q2
        obtain ⟨G3, g3, s3, rp⟩ := v2.share g2 fr2 es
        have he3 := he1.mono g3
        have q3 : PostP c ((dPairs fs Γ).bind fun ps => .ok ((k, d) :: ps)) σ G3 H2 Q := PostP.later g3 q2
        refine pairs_of (fs := fs) he3 ?_
        cases ed : dPairs fs Γ with
        | bad => rw [ed] at q3; exact q3
        | ex z => rw [ed] at q3; exact q3
        | ok ps =>
          rw [ed] at q3
          exact fun kvs G' H' g r => q3 ((k, y) :: kvs) G' H' g (.cons (rp.mono g.gg) r)
theorem re_disp {keys : List (Option Expr)} {values : List Expr} {fs : List (FE × FE)} (h : PPs X pos keys values (fs.map fun p => (tE c p.1, tE c p.2))) (hall : keys.all (·.isSome) = true := by rfl) (hl : keys.length = values.length := by rfl) (h0 : keys ≠ [] := by exact List.cons_ne_nil _ _)
    (h15 : keys.length ≤ 15 := by decide) : PE X (.Dict keys values pos) (tE c (eDisp fs)) := by
  refine PE.weak (pe_disp h hall hl h0 h15) ?_
  rintro σ H Q ⟨G, Γ, he, q⟩ p hp
  have g1 : Gr G H G (upd H p (.dK [])) := .own he.gh hp
  have gp : G p = none := he.gh.free hp
  refine pairs_of (he.mono g1) ?_
  unfold eDisp at q
  cases ed : dPairs fs Γ with
  | bad => rw [ed] at q; exact q
  | ex z => rw [ed] at q; exact fun G' H' g => q G' H' (g1.trans g)
  | ok ps =>
    rw [ed] at q
    have q : Post c (if ps.length ≤ 15 then .ok (.fr (.dk (mergeD ([], []) ps).1 (mergeD ([], []) ps).2)) else .bad) σ G H Q := q
    split at q
    · rename_i hl
      intro kvs G' H' g r
      have e := g.hh _ _ (upd_same (H := H) (a := p) (o := .dK [])) (fun _ z => by cases z)
      have gp' : G' p = none := g.keepNone gp (live_of upd_same)
      refine ⟨e, kvs, rfl, by rw [r.length]; exact hl, ?_⟩
      obtain ⟨m1, m2⟩ := r.merge (kvs := []) (ds := []) .nil
      have g2 : Gr G H G' (upd H' p (.dK (mergeK [] kvs))) := by
        exact (g1.trans g).put (.of hp) gp' e ⟨fun _ z => (by cases z), fun _ z => (by cases z)⟩
      exact q (.ref p) G' _ g2 ⟨p, rfl, Kept.free he.bh hp, gp', .dk upd_same m1 m2⟩ ⟨p, rfl, .of hp⟩
    · exact q.elim
def D.isD : D → Bool
  | .dk _ _ => true | .dt _ _ => true | _ => false
def kGet2 (x y z : Rv) : Re Rv := match dlook x.d y.d with
  | some (some d) => .ok (.sh d) | some none => (match z with | .sh d => .ok (.sh d) | _ => .bad) | none => .bad
def eGet2 (f g h : FE) : FE := fun Γ => (f Γ).bind fun x => if x.d.isD = true then (g Γ).bind fun y => (h Γ).bind fun z => kGet2 x y z else .bad
theorem re_get2 (cy : Cy X c) {o a b : Expr} {f g h : FE} {apos cpos : Pos} (ho : PE X o (tE c f)) (ha : PE X a (tE c g)) (hb : PE X b (tE c h)) (m : M2 X o "get" apos a b cpos := by exact ⟨rfl, rfl, rfl, rfl⟩) :
    PE X (.Call (.Attribute o "get" apos) [a, b] [] cpos) (tE c (eGet2 f g h)) := by
  have hu : X.A.units + 1 < cLine := Nat.lt_of_le_of_lt (Nat.add_le_add_left (by decide) _) cy.un
  refine PE.weak (pe_dget2 hu ho ha hb m) ?_
  rintro σ H Q ⟨G, Γ, he, q⟩
  refine eE he q fun rx x G1 H1 eq1 g1 v1 fr1 he1 q1 => ?_
  split at q1
  · rename_i hd
    have hx : ∃ p, x = .ref p ∧ IsD H1 p := by
      cases e : rx.d with
      | dk ks ds => obtain ⟨p, kvs, e1, h1, _⟩ := v1.dk he1.gh e; exact ⟨p, e1, .inl ⟨kvs, h1⟩⟩
      | dt ks ds => obtain ⟨p, kvs, e1, h1, _⟩ := v1.dt he1.gh e; exact ⟨p, e1, .inr ⟨kvs, h1⟩⟩
      | _ => rw [e] at hd; cases hd
    obtain ⟨p, rfl, hI⟩ := hx
    refine ⟨p, rfl, hI, ?_⟩
    refine eE he1 q1 fun ry y G2 H2 eq2 g2 v2 fr2 he2 q2 => ?_
    refine eE he2 q2 fun rz z G3 H3 eq3 g3 v3 fr3 he3 q3 => ?_
    unfold kGet2 at q3
    split at q3
    · rename_i d ed
      obtain ⟨p', ov, e1, hdg, hh⟩ := dlook_ok he3.gh ((v1.mono g2).mono g3) (v2.mono g3) ed
      cases e1
      rcases hh with ⟨_, h⟩ | ⟨w, d', h1, h2, h3⟩
      · cases h
      · cases h2
        subst h1
        exact ⟨_, hdg, post_sh he3.gh q3 h3⟩
    · rename_i ed
      obtain ⟨p', ov, e1, hdg, hh⟩ := dlook_ok he3.gh ((v1.mono g2).mono g3) (v2.mono g3) ed
      cases e1
      rcases hh with ⟨h1, _⟩ | ⟨w, d', h1, h2, h3⟩
      · subst h1
        refine ⟨_, hdg, ?_⟩
        cases rz with
        | sh d => exact post_sh he3.gh q3 v3
        | fr d => exact q3.elim
        | bo d => exact q3.elim
      · cases h2
    · exact q3.elim
  · exact q1.elim
def kIdx (x y : Rv) : Re Rv := match x.d.seq?, y.d with
  | some ds, .i k => (match D.ints ds with | some zs => (match zs.findIdx? (· == k) with | some j => oki (j : Nat) | none => .bad) | none => .bad)
  | _, _ => .bad
def eIdx (f g : FE) : FE := fun Γ => (f Γ).bind fun x => match x.d.seq? with
  | some _ => (g Γ).bind fun y => kIdx x y
  | none => .bad
theorem re_index {o a : Expr} {f g : FE} {apos cpos : Pos} (cy : Cy X c) (ho : PE X o (tE c f)) (ha : PE X a (tE c g)) (hbase : attributeBase o "index" X.env (eval o X.env) = eval o X.env := by rfl)
    (hfew : ((backTo cpos (starEach [a] X.env)).all (fun x => !x.1) && (backToKw cpos (keywordEach [] X.env)).all (fun x => x.1.isSome) && decide ([a].length + ([] : List Keyword).length + (if ([] : List Keyword).isEmpty then 0 else 1) < 30)) = true := by rfl)
    (hline : (apos.endLine == cpos.line) = true := by rfl) (hs : starEach [a] X.env = [(false, eval a X.env)] := by rfl) : PE X (.Call (.Attribute o "index" apos) [a] [] cpos) (tE c (eIdx f g)) := by
  refine PE.weak (pe_bm PySem.F.plainAttrs_list PySem.F.slot_list_index PySem.F.type_list_index mt_index ho (pa_cons ha pa_nil hs) hbase hfew hline hs) ?_
  rintro σ H Q ⟨G, Γ, he, q⟩
  refine eE he q fun rx x G1 H1 eq1 g1 v1 fr1 he1 q1 => ?_
  split at q1
  · rename_i ds0 e0
    obtain ⟨p, xs, rfl, s1, r1⟩ := v1.sql he1.gh e0
    refine ⟨.inl ⟨rfl, _, by rw [cy.K]; exact s1⟩, ?_⟩
    refine eE he1 q1 fun ry y G2 H2 eq2 g2 v2 fr2 he2 q2 => ?_
    unfold kIdx at q2
    rw [e0] at q2
    split at q2
    · rename_i ds k ed ek
      cases ed
      split at q2
      · rename_i zs ez
        split at q2
        · rename_i j ej
          obtain ⟨p', ys, e1, s2, r2⟩ := (v1.mono g2).sql he2.gh e0
          cases e1
          have ey := v2.int ek
          subst ey
          rw [D.ints_eq ez] at r2
          have e3 := r2.ints
          subst e3
          obtain ⟨hj, hp, hn⟩ := List.findIdx?_eq_some_iff_getElem.mp ej
          refine ⟨p, zs.map V.int, .int k, j, .int zs[j], rfl, rfl, by rw [cy.K]; exact s2, rfl, ?_, by simp [hj], ?_, fun m z' hm hz => ?_, post_sh he2.gh q2 (.i _)⟩
          · simp [flatV]
          · simpa [eqV] using hp
          · rw [List.getElem?_map] at hz
            cases hg : zs[m]? with
            | none => rw [hg] at hz; cases hz
            | some w =>
              rw [hg] at hz
              cases hz
              have := hn m hm
              have hw : zs[m]'(by omega) = w := by rw [List.getElem?_eq_getElem (by omega)] at hg; exact Option.some.inj hg
              rw [hw] at this
              simpa [eqV] using this
        · exact q2.elim
      · exact q2.elim
    · exact q2.elim
  · exact q1.elim
end
end Ly
end

section
set_option maxRecDepth 100000
namespace Ly
open PySem PySem.Spec L2
open PyProof.Rows hiding St
variable [Tb]
def tlook {α : Type} : List (Str × α) → Str → Option α
  | [], _ => none
  | p :: r, z => if p.1 = z then some p.2 else tlook r z
def wEnt (P : Params) : List (Str × Int) → List (Tok × Tok) → List DictEntry
  | p :: r, t :: ts => ⟨PyData.keyHash P p.1, .str p.1 t.1, .int p.2 t.2⟩ :: wEnt P r ts
  | _, _ => []
structure WDk (w : World) (K : PySem.W.Frag) (mg : Str → Option Value) (x : Str) (tbl : List (Str × Int)) : Prop where
  ex : ∃ (A : Addr) (es : Array DictEntry) (n : Nat), mg x = some (.ref A) ∧ KDict K w A es n ∧ ∀ z, ∃ r, PySem.W.nsIn K A z = some r ∧ match tlook tbl z with
    | some i => ∃ t, r = some (.int i t)
    | none => r = none
theorem wEnt_lit {P : Params} : ∀ (tbl : List (Str × Int)) (ts : List (Tok × Tok)), PySem.W.KeysLit P (wEnt P tbl ts)
  | [], [] => True.intro
  | [], _ :: _ => True.intro
  | _ :: _, [] => True.intro
  | p :: r, t :: ts => ⟨⟨p.1, t.1, rfl, rfl⟩, wEnt_lit r ts⟩
theorem isStr_str {x z : Str} {t : Tok} : (Value.str x t).isStr z = decide (x = z) := by
  show (x == z) = _
  by_cases h : x = z
  · subst h; simp
  · simp [h]
theorem wEnt_find {P : Params} (z : Str) : ∀ (tbl : List (Str × Int)) (ts : List (Tok × Tok)), ts.length = tbl.length → match tlook tbl z with
    | some i => ∃ e t, (wEnt P tbl ts).find? (fun e => e.key.isStr z) = some e ∧ e.val = .int i t
    | none => (wEnt P tbl ts).find? (fun e => e.key.isStr z) = none
  | [], [], _ => rfl
  | p :: r, t :: ts, h => by
    unfold tlook
    have ih := wEnt_find (P := P) z r ts (by simpa using h)
    by_cases e : p.1 = z
    · rw [if_pos e]
      refine ⟨⟨PyData.keyHash P p.1, .str p.1 t.1, .int p.2 t.2⟩, t.2, ?_, rfl⟩
      rw [wEnt, List.find?_cons]
      simp [isStr_str, e]
    · rw [if_neg e]
      have : (wEnt P (p :: r) (t :: ts)).find? (fun e => e.key.isStr z) = (wEnt P r ts).find? (fun e => e.key.isStr z) := by
        rw [wEnt, List.find?_cons]
        simp [isStr_str, e]
      rw [this]
      exact ih
theorem wEnt_ref {P : Params} : ∀ (tbl : List (Str × Int)) (ts : List (Tok × Tok)), (wEnt P tbl ts).any (·.refKey) = false
  | [], [] => rfl
  | [], _ :: _ => rfl
  | _ :: _, [] => rfl
  | p :: r, t :: ts => by rw [wEnt, List.any_cons, wEnt_ref r ts]; rfl
theorem wd_mk {w : World} {K : PySem.W.Frag} {mg : Str → Option Value} {x : Str} {A : Addr} {n : Nat} (tbl : List (Str × Int)) (ts : List (Tok × Tok)) (hl : ts.length = tbl.length) (hm : mg x = some (.ref A)) (hs : (A == sysModules) = false)
    (hk : K.lookup A = some ⟨.type "dict", none, .dict (wEnt w.params tbl ts).toArray n, #[]⟩) : WDk w K mg x tbl := by
  refine ⟨A, _, n, hm, ⟨hk, by simpa using wEnt_lit tbl ts, hs⟩, fun z => ?_⟩
  have hf := wEnt_find (P := w.params) z tbl ts hl
  unfold PySem.W.nsIn
  rw [hk]
  cases e : tlook tbl z with
  | some i =>
    rw [e] at hf
    obtain ⟨en, t, h1, h2⟩ := hf
    exact ⟨some en.val, by simp [h1], t, by rw [h2]⟩
  | none =>
    rw [e] at hf
    have hr := wEnt_ref (P := w.params) tbl ts
    exact ⟨none, by simp only [hf, hr]; simp, rfl⟩
def eInW (neg : Bool) (tbl : List (Str × Int)) (f : FE) : FE := fun Γ => (f Γ).bind fun x => match x.d with
  | .s z => okb (if neg then !(tlook tbl z).isSome else (tlook tbl z).isSome) | _ => .bad
def eGetW (tbl : List (Str × Int)) (f : FE) : FE := fun Γ => (f Γ).bind fun x => match x.d with
  | .s z => (match tlook tbl z with | some i => oki i | none => .bad) | _ => .bad
section
variable {X : Cx} {c : LC} {a : Expr} {f : FE} {pos p : Pos} {x : Str} {tbl : List (Str × Int)}
theorem inW_w (neg : Bool) {A : Addr} (hz : ∀ z, ∃ r, PySem.W.nsIn X.K A z = some r ∧ match tlook tbl z with
    | some i => ∃ t, r = some (.int i t)
    | none => r = none) {R2' : R2} (hR : R2' = fun x y H Q => ∃ (z : Str) (r : Option Value), x = .str z ∧ y = .ref A ∧ PySem.W.nsIn X.K A z = some r ∧ Q (.bl (if neg then !r.isSome else r.isSome)) H) : ∀ σ H Q, tE c (eInW neg tbl f) σ H Q → tOp R2' (tE c f) (tC (.ref A)) σ H Q := by
  subst hR
  rintro σ H Q ⟨G, Γ, he, q⟩
  refine eE he q fun rx v G1 H1 eq1 g1 v1 fr1 he1 q1 => ?_
  split at q1
  · rename_i z ez
    obtain ⟨r, h1, h2⟩ := hz z
    refine ⟨z, r, v1.str ez, rfl, h1, ?_⟩
    have : r.isSome = (tlook tbl z).isSome := by
      cases e : tlook tbl z with
      | some i => rw [e] at h2; obtain ⟨t, rfl⟩ := h2; rfl
      | none => rw [e] at h2; subst h2; rfl
    rw [this]
    exact post_sh he1.gh q1 (.b _)
  · exact q1.elim
theorem re_inW (T : WDk X.w X.K X.mg x tbl) (hg : Gl X x) (ha : PE X a (tE c f)) (hd : (x == ("__debug__" : Str)) = false := by decide) : PE X (.Compare a [.In] [.Name x p] pos) (tE c (eInW false tbl f)) := by
  obtain ⟨A, es, n, hm, D, hz⟩ := T.ex
  exact PE.weak (pe_cmpR (op_in_kd D) ha (pe_glob hg hm (v := .ref A) rfl hd) (by rfl)) (inW_w false hz rfl)
theorem re_notInW (T : WDk X.w X.K X.mg x tbl) (hg : Gl X x) (ha : PE X a (tE c f)) (hd : (x == ("__debug__" : Str)) = false := by decide) : PE X (.Compare a [.NotIn] [.Name x p] pos) (tE c (eInW true tbl f)) := by
  obtain ⟨A, es, n, hm, D, hz⟩ := T.ex
  exact PE.weak (pe_cmpR (op_notIn_kd D) ha (pe_glob hg hm (v := .ref A) rfl hd) (by rfl)) (inW_w true hz rfl)
theorem rt_inW (T : WDk X.w X.K X.mg x tbl) (hg : Gl X x) (ha : PE X a (tE c f)) (hd : (x == ("__debug__" : Str)) = false := by decide) : PT X (.Compare a [.In] [.Name x p] pos) (tT c (tV (eInW false tbl f))) := by
  obtain ⟨A, es, n, hm, D, hz⟩ := T.ex
  exact tV_test (pt_cmpR (op_in_kd D) ha (pe_glob hg hm (v := .ref A) rfl hd) (by rfl)) (inW_w false hz rfl)
theorem rt_notInW (T : WDk X.w X.K X.mg x tbl) (hg : Gl X x) (ha : PE X a (tE c f)) (hd : (x == ("__debug__" : Str)) = false := by decide) : PT X (.Compare a [.NotIn] [.Name x p] pos) (tT c (tV (eInW true tbl f))) := by
  obtain ⟨A, es, n, hm, D, hz⟩ := T.ex
  exact tV_test (pt_cmpR (op_notIn_kd D) ha (pe_glob hg hm (v := .ref A) rfl hd) (by rfl)) (inW_w true hz rfl)
theorem re_getW (T : WDk X.w X.K X.mg x tbl) (hg : Gl X x) (ha : PE X a (tE c f)) (hs : PlainIx a := by intro _ _; rfl) (hd : (x == ("__debug__" : Str)) = false := by decide) : PE X (.Subscript (.Name x p) a pos) (tE c (eGetW tbl f)) := by
  obtain ⟨A, es, n, hm, D, hz⟩ := T.ex
  refine PE.weak (pe_ix ix_kdict (pe_glob hg hm (v := .ref A) rfl hd) ha hs) ?_
  rintro σ H Q ⟨G, Γ, he, q⟩
  show tE c f σ H _
  refine eE he q fun rx v G1 H1 eq1 g1 v1 fr1 he1 q1 => ?_
  split at q1
  · rename_i z ez
    split at q1
    · rename_i i ei
      obtain ⟨r, h1, h2⟩ := hz z
      rw [ei] at h2
      obtain ⟨t, rfl⟩ := h2
      exact ⟨A, z, .int i, rfl, v1.str ez, ⟨es, n, _, D.at_, D.lit, h1, ⟨t, rfl⟩⟩, post_sh he1.gh q1 (.i _)⟩
    · exact q1.elim
  · exact q1.elim
end
end Ly
end

section
set_option maxRecDepth 100000
namespace Ly
open PySem PySem.Spec L2
open PyProof.Rows hiding St

abbrev Lk := List (Nat × Rv)
def lk : Nat → Lk → Option Rv
  | _, [] => none
  | i, p :: L => bif Nat.beq i p.1 then some p.2 else lk i L
theorem lk_cons {i j : Nat} {r : Rv} {L : Lk} : lk i ((j, r) :: L) = if i = j then some r else lk i L := by
  show (bif Nat.beq i j then some r else lk i L) = _
  by_cases h : i = j
  · subst h; simp
  · have : Nat.beq i j = false := by rw [← Bool.not_eq_true]; exact fun e => h (Nat.eq_of_beq_eq_true e)
    rw [if_neg h, this]; rfl
structure Ag (m : Nat) (L : Lk) (Γ : Env') : Prop where
  len : Γ.length = m
  at' : ∀ i r, lk i L = some r → Γ[i]? = some (some r)
theorem Ag.set {m : Nat} {L : Lk} {Γ : Env'} (h : Ag m L Γ) {i : Nat} (hi : i < m) (r : Rv) : Ag m ((i, r) :: L) (Γ.set i (some r)) := by
  refine ⟨by rw [List.length_set]; exact h.len, fun j s hj => ?_⟩
  rw [lk_cons] at hj
  by_cases e : j = i
  · subst e
    rw [if_pos rfl] at hj
    cases hj
    exact List.getElem?_set_self (by rw [h.len]; exact hi)
  · rw [if_neg e] at hj
    rw [List.getElem?_set_ne (Ne.symm e)]
    exact h.at' j s hj
def frzL (i : Nat) (L : Lk) : Lk := match lk i L with
  | some (.fr d) => (i, .sh d) :: L
  | _ => L
theorem Ag.frz {m : Nat} {L : Lk} {Γ : Env'} (h : Ag m L Γ) (i : Nat) : Ag m (frzL i L) (Ly.frz i Γ) := by
  unfold frzL
  split
  · rename_i d e
    have hg := h.at' i _ e
    have hi : i < m := by rw [← h.len]; exact (List.getElem?_eq_some_iff.mp hg).1
    have : Ly.frz i Γ = Γ.set i (some (.sh d)) := by unfold Ly.frz; rw [hg]
    rw [this]
    exact h.set hi _
  · rename_i hn
    refine ⟨by rw [frz_len]; exact h.len, fun j r hj => ?_⟩
    have hg := h.at' j r hj
    unfold Ly.frz
    split
    · rename_i d e
      by_cases hji : j = i
      · subst hji
        rw [hg] at e
        cases e
        exact absurd hj (hn d)
      · rw [List.getElem?_set_ne (Ne.symm hji)]; exact hg
    · exact hg
def subL (L' L : Lk) : Prop := ∀ i r, lk i L' = some r → lk i L = some r
theorem sub_n {L : Lk} : subL [] L := fun _ _ h => by cases h
theorem sub_c {L L' : Lk} {i : Nat} {r : Rv} (h : lk i L = some r) (h' : subL L' L) : subL ((i, r) :: L') L := fun j s hj => by
  rw [lk_cons] at hj
  by_cases e : j = i
  · subst e; rw [if_pos rfl] at hj; cases hj; exact h
  · rw [if_neg e] at hj; exact h' j s hj
theorem Ag.sub {m : Nat} {L L' : Lk} {Γ : Env'} (h : Ag m L Γ) (s : subL L' L) : Ag m L' Γ := ⟨h.len, fun i r e => h.at' i r (s i r e)⟩
def argL : Nat → List D → Lk
  | _, [] => []
  | k, d :: ds => (k, .sh d) :: argL (k + 1) ds
theorem argL_at : ∀ (ds : List D) (k i : Nat) (r : Rv), lk i (argL k ds) = some r → ∃ j d, i = k + j ∧ ds[j]? = some d ∧ r = .sh d
  | [], _, _, _, h => by cases h
  | d :: ds, k, i, r, h => by
    unfold argL at h
    rw [lk_cons] at h
    by_cases e : i = k
    · rw [if_pos e] at h; cases h; exact ⟨0, d, by omega, rfl, rfl⟩
    · rw [if_neg e] at h
      obtain ⟨j, d', h1, h2, h3⟩ := argL_at ds (k + 1) i r h
      exact ⟨j + 1, d', by omega, by simpa using h2, h3⟩
theorem ag_start {n m : Nat} {ds : List D} (hn : ds.length = n) (hm : n ≤ m) : Ag m (argL 0 ds) (ds.map (fun d => some (.sh d)) ++ List.replicate (m - n) none) := by
  refine ⟨by simp; omega, fun i r h => ?_⟩
  obtain ⟨j, d, h1, h2, rfl⟩ := argL_at ds 0 i r h
  have hj : j < ds.length := (List.getElem?_eq_some_iff.mp h2).1
  have : i = j := by omega
  subst this
  rw [List.getElem?_append_left (by simpa using hj), List.getElem?_map, h2]
  rfl

inductive Kd where
  | sh | fr | bo
@[simp] def Kd.v : Kd → D → Rv
  | .sh => .sh | .fr => .fr | .bo => .bo
def Kd.ok : Kd → Bool
  | .bo => false | _ => true
@[simp] theorem Kd.v_d (k : Kd) (d : D) : (k.v d).d = d := by cases k <;> rfl
theorem Kd.share {k : Kd} (h : k.ok = true) (d : D) : Ly.share (k.v d) = .ok d := by cases k <;> first | rfl | cases h
def RE1 {τ : Type} (k : Kd) (e : τ → D) (x : Re τ) (y : Re Rv) : Prop := match x with
  | .ok a => y = .ok (k.v (e a)) | .ex z => y = .ex z | .bad => True
def ER {τ : Type} (m : Nat) (L : Lk) (k : Kd) (e : τ → D) (x : Re τ) (f : FE) : Prop := ∀ Γ, Ag m L Γ → RE1 k e x (f Γ)
def RT (x y : Re Bool) : Prop := match x with
  | .ok a => y = .ok a | .ex z => y = .ex z | .bad => True
def TR (m : Nat) (L : Lk) (x : Re Bool) (f : FT) : Prop := ∀ Γ, Ag m L Γ → RT x (f Γ)
def RI1 {τ : Type} (e : τ → D) (x : Re (List τ)) (y : Re (List D)) : Prop := match x with
  | .ok a => y = .ok (a.map e) | .ex z => y = .ex z | .bad => True
def IR {τ : Type} (m : Nat) (L : Lk) (e : τ → D) (x : Re (List τ)) (f : FI) : Prop := ∀ Γ, Ag m L Γ → RI1 e x (f Γ)
def OR' (m : Nat) (L : Lk) (x : Re (Option Int)) (f : FO) : Prop := ∀ Γ, Ag m L Γ → match x with
  | .ok a => f Γ = .ok a | .ex z => f Γ = .ex z | .bad => True
section
variable {m : Nat} {L : Lk} {k k1 k2 k3 k4 k5 : Kd} {α β γ δ ε τ : Type} {e : τ → D} {ea : α → D} {eb : β → D} {ec : γ → D} {ed : δ → D} {ee : ε → D} {f g h f4 f5 : FE}
abbrev eI : Int → D := D.i
abbrev eB : Bool → D := D.b
abbrev eS : Str → D := D.s
abbrev eU : Unit → D := fun _ => D.n
abbrev eL (e : α → D) : List α → D := fun xs => .l (xs.map e)
abbrev eTu (e : α → D) : List α → D := fun xs => .t (xs.map e)
abbrev eP2 (ea : α → D) (eb : β → D) : α × β → D := fun p => .t [ea p.1, eb p.2]
abbrev eP3 (ea : α → D) (eb : β → D) (ec : γ → D) : α × β × γ → D := fun p => .t [ea p.1, eb p.2.1, ec p.2.2]
abbrev eCl : Str × List Int → D := fun c => .t (.s c.1 :: c.2.map .i)
abbrev eDk (e : α → D) : List (Int × α) → D := fun A => .dk (A.map fun p => .inl p.1) (A.map fun p => e p.2)
abbrev eDt (e : α → D) : List (List Int × α) → D := fun A => .dt (A.map fun p => p.1.map .inl) (A.map fun p => e p.2)

theorem er_sub {L' : Lk} {x : Re τ} (hs : subL L' L) (hx : ER m L' k e x f) : ER m L k e x f := fun Γ hΓ => hx Γ (hΓ.sub hs)
theorem er_v {i : Nat} {a : τ} (hl : lk i L = some (.sh (e a))) : ER m L .sh e (.ok a) (eV i) := fun Γ hΓ => by
  have := hΓ.at' i _ hl
  show eV i Γ = _
  unfold eV
  rw [this]
  rfl
theorem er_vf {i : Nat} {a : τ} (hl : lk i L = some (.fr (e a))) : ER m L .bo e (.ok a) (eV i) := fun Γ hΓ => by
  have := hΓ.at' i _ hl
  show eV i Γ = _
  unfold eV
  rw [this]
  rfl
theorem er_i {z : Int} : ER m L .sh eI (.ok z) (eC (.i z)) := fun _ _ => rfl
theorem er_b {z : Bool} : ER m L .sh eB (.ok z) (eC (.b z)) := fun _ _ => rfl
theorem er_s {z : Str} : ER m L .sh eS (.ok z) (eC (.s z)) := fun _ _ => rfl
theorem er_n : ER m L .sh eU (.ok ()) (eC .n) := fun _ _ => rfl
theorem er_1 {x : Re α} {t : α → Re τ} {o : Rv → Re Rv} (hx : ER m L k1 ea x f) (ho : ∀ a, RE1 k e (t a) (o (k1.v (ea a)))) : ER m L k e (x.bind t) (e1 o f) := fun Γ hΓ => by
  have h1 := hx Γ hΓ
  cases x with
  | ok a =>
    have h1 : f Γ = .ok _ := h1
    show RE1 k e (t a) ((f Γ).bind o)
    rw [h1]
    exact ho a
  | ex z =>
    have h1 : f Γ = .ex z := h1
    show (f Γ).bind o = .ex z
    rw [h1]; rfl
  | bad => trivial
theorem er_2 {x : Re α} {y : Re β} {t : α → β → Re τ} {o : Rv → Rv → Re Rv} (hx : ER m L k1 ea x f) (hy : ER m L k2 eb y g) (ho : ∀ a b, RE1 k e (t a b) (o (k1.v (ea a)) (k2.v (eb b)))) : ER m L k e (x.bind fun a => y.bind fun b => t a b) (e2 o f g) := fun Γ hΓ => by
  have h1 := hx Γ hΓ
  have h2 := hy Γ hΓ
  cases x with
  | ok a =>
    have h1 : f Γ = .ok _ := h1
    show RE1 k e (y.bind fun b => t a b) ((f Γ).bind fun x => (g Γ).bind fun y => o x y)
    rw [h1]
    cases y with
    | ok b =>
      have h2 : g Γ = .ok _ := h2
      show RE1 k e (t a b) ((g Γ).bind fun y => o _ y)
      rw [h2]
      exact ho a b
    | ex z =>
      have h2 : g Γ = .ex z := h2
      show ((g Γ).bind fun y => o _ y) = .ex z
      rw [h2]; rfl
    | bad => trivial
  | ex z =>
    have h1 : f Γ = .ex z := h1
    show ((f Γ).bind fun x => (g Γ).bind fun y => o x y) = .ex z
    rw [h1]; rfl
  | bad => trivial
theorem er_p1 {a : α} {z : Re τ} {o : Rv → Re Rv} (hx : ER m L k1 ea (.ok a) f) (ho : RE1 k e z (o (k1.v (ea a)))) : ER m L k e z (e1 o f) := fun Γ hΓ => by
  have h1 : f Γ = .ok _ := hx Γ hΓ
  show RE1 k e z ((f Γ).bind o)
  rw [h1]
  exact ho
theorem er_p2 {a : α} {b : β} {z : Re τ} {o : Rv → Rv → Re Rv} (hx : ER m L k1 ea (.ok a) f) (hy : ER m L k2 eb (.ok b) g) (ho : RE1 k e z (o (k1.v (ea a)) (k2.v (eb b)))) : ER m L k e z (e2 o f g) := fun Γ hΓ => by
  have h1 : f Γ = .ok _ := hx Γ hΓ
  have h2 : g Γ = .ok _ := hy Γ hΓ
  show RE1 k e z ((f Γ).bind fun x => (g Γ).bind fun y => o x y)
  rw [h1]
  show RE1 k e z ((g Γ).bind fun y => o _ y)
  rw [h2]
  exact ho
theorem er_pl {a : α} {y : Re β} {t : β → Re τ} {o : Rv → Rv → Re Rv} (hx : ER m L k1 ea (.ok a) f) (hy : ER m L k2 eb y g) (ho : ∀ b, RE1 k e (t b) (o (k1.v (ea a)) (k2.v (eb b)))) : ER m L k e (y.bind t) (e2 o f g) := fun Γ hΓ => by
  have h1 : f Γ = .ok _ := hx Γ hΓ
  have h2 := hy Γ hΓ
  show RE1 k e (y.bind t) ((f Γ).bind fun x => (g Γ).bind fun y => o x y)
  rw [h1]
  cases y with
  | ok b =>
    have h2 : g Γ = .ok _ := h2
    show RE1 k e (t b) ((g Γ).bind fun y => o _ y)
    rw [h2]
    exact ho b
  | ex z =>
    have h2 : g Γ = .ex z := h2
    show ((g Γ).bind fun y => o _ y) = .ex z
    rw [h2]; rfl
  | bad => trivial
theorem er_pr {x : Re α} {b : β} {t : α → Re τ} {o : Rv → Rv → Re Rv} (hx : ER m L k1 ea x f) (hy : ER m L k2 eb (.ok b) g) (ho : ∀ a, RE1 k e (t a) (o (k1.v (ea a)) (k2.v (eb b)))) : ER m L k e (x.bind t) (e2 o f g) := fun Γ hΓ => by
  have h1 := hx Γ hΓ
  have h2 : g Γ = .ok _ := hy Γ hΓ
  cases x with
  | ok a =>
    have h1 : f Γ = .ok _ := h1
    show RE1 k e (t a) ((f Γ).bind fun x => (g Γ).bind fun y => o x y)
    rw [h1]
    show RE1 k e (t a) ((g Γ).bind fun y => o _ y)
    rw [h2]
    exact ho a
  | ex z =>
    have h1 : f Γ = .ex z := h1
    show ((f Γ).bind fun x => (g Γ).bind fun y => o x y) = .ex z
    rw [h1]; rfl
  | bad => trivial

theorem o_add {a b : Int} : RE1 .sh eI (.ok (a + b)) (kAdd (k1.v (eI a)) (k2.v (eI b))) := by cases k1 <;> cases k2 <;> rfl
theorem o_sub {a b : Int} : RE1 .sh eI (.ok (a - b)) (kSub (k1.v (eI a)) (k2.v (eI b))) := by cases k1 <;> cases k2 <;> rfl
theorem o_neg {a : Int} : RE1 .sh eI (.ok (-a)) (kNeg (k1.v (eI a))) := by cases k1 <;> rfl
@[irreducible] def mulT (a b : Int) : Re Int := if (-(2 ^ 64) < a ∧ a < 2 ^ 64) ∨ (-(2 ^ 64) < b ∧ b < 2 ^ 64) then .ok (a * b) else .bad
theorem o_mul {a b : Int} : RE1 .sh eI (mulT a b) (kMul (k1.v (eI a)) (k2.v (eI b))) := by
  have : kMul (k1.v (eI a)) (k2.v (eI b)) = if (-(2 ^ 64) < a ∧ a < 2 ^ 64) ∨ (-(2 ^ 64) < b ∧ b < 2 ^ 64) then oki (a * b) else .bad := by cases k1 <;> cases k2 <;> rfl
  rw [this]
  unfold mulT
  split
  · rfl
  · trivial
theorem mulT_l {a b : Int} (h : -(2 ^ 64) < a ∧ a < 2 ^ 64) : mulT a b = .ok (a * b) := by unfold mulT; exact if_pos (.inl h)
theorem mulT_r {a b : Int} (h : -(2 ^ 64) < b ∧ b < 2 ^ 64) : mulT a b = .ok (a * b) := by unfold mulT; exact if_pos (.inr h)
theorem o_mul_l {a b : Int} (h : -(2 ^ 64) < a ∧ a < 2 ^ 64) : RE1 .sh eI (.ok (a * b)) (kMul (k1.v (eI a)) (k2.v (eI b))) := by rw [← mulT_l h]; exact o_mul
theorem o_mul_r {a b : Int} (h : -(2 ^ 64) < b ∧ b < 2 ^ 64) : RE1 .sh eI (.ok (a * b)) (kMul (k1.v (eI a)) (k2.v (eI b))) := by rw [← mulT_r h]; exact o_mul
def modT (a b : Int) : Re Int := if 0 < b then .ok (a % b) else .bad
theorem modT_ok {a b : Int} (h : 0 < b) : modT a b = .ok (a % b) := if_pos h
theorem o_modT {a b : Int} : RE1 .sh eI (modT a b) (kMod (k1.v (eI a)) (k2.v (eI b))) := by
  have : kMod (k1.v (eI a)) (k2.v (eI b)) = if 0 < b then oki (a % b) else .bad := by cases k1 <;> cases k2 <;> rfl
  rw [this]
  unfold modT
  split
  · rfl
  · trivial
theorem o_mod {a b : Int} (h : 0 < b) : RE1 .sh eI (.ok (a % b)) (kMod (k1.v (eI a)) (k2.v (eI b))) := by rw [← modT_ok h]; exact o_modT
@[irreducible] def divT (a b : Int) : Re Int := if 0 < b ∧ b < 1073741824 then .ok (a / b) else .bad
theorem divT_ok {a b : Int} (h : 0 < b ∧ b < 1073741824) : divT a b = .ok (a / b) := by unfold divT; exact if_pos h
theorem o_divT {a b : Int} : RE1 .sh eI (divT a b) (kDiv (k1.v (eI a)) (k2.v (eI b))) := by
  have : kDiv (k1.v (eI a)) (k2.v (eI b)) = if 0 < b ∧ b < 1073741824 then oki (a / b) else .bad := by cases k1 <;> cases k2 <;> rfl
  rw [this]
  unfold divT
  split
  · rfl
  · trivial
theorem o_div {a b : Int} (h : 0 < b ∧ b < 1073741824) : RE1 .sh eI (.ok (a / b)) (kDiv (k1.v (eI a)) (k2.v (eI b))) := by rw [← divT_ok h]; exact o_divT
theorem o_pow {a b : Int} (h : 0 ≤ b ∧ b ≤ 1000000 ∧ a.natAbs < 2 ^ 64) : RE1 .sh eI (.ok (a ^ b.toNat)) (kPow (k1.v (eI a)) (k2.v (eI b))) := by
  have : kPow (k1.v (eI a)) (k2.v (eI b)) = if 0 ≤ b ∧ b ≤ 1000000 ∧ a.natAbs < 2 ^ 64 then oki (a ^ b.toNat) else .bad := by cases k1 <;> cases k2 <;> rfl
  rw [this, if_pos h]
  rfl
theorem o_lt {a b : Int} : RE1 .sh eB (.ok (decide (a < b))) (kLt (k1.v (eI a)) (k2.v (eI b))) := by cases k1 <;> cases k2 <;> rfl
theorem o_le {a b : Int} : RE1 .sh eB (.ok (decide (a ≤ b))) (kLe (k1.v (eI a)) (k2.v (eI b))) := by cases k1 <;> cases k2 <;> rfl
theorem o_gt {a b : Int} : RE1 .sh eB (.ok (decide (b < a))) (kGt (k1.v (eI a)) (k2.v (eI b))) := by cases k1 <;> cases k2 <;> rfl
theorem o_ge {a b : Int} : RE1 .sh eB (.ok (decide (b ≤ a))) (kGe (k1.v (eI a)) (k2.v (eI b))) := by cases k1 <;> cases k2 <;> rfl
structure EqOk (n : Nat) (e : α → D) : Prop where
  ok : ∀ a, dok n (e a) = true
  eq : ∀ a b, deq (e a) (e b) = true ↔ a = b
theorem eqI (n : Nat) : EqOk n eI := ⟨fun _ => by cases n <;> rfl, fun a b => by
  show (a == b) = true ↔ _
  simp⟩
theorem eqv_pys : ∀ (xs ys : List α) {n : Nat} (h : EqOk n ea), PyData.eqvAll (D.pys (xs.map ea)) (D.pys (ys.map ea)) = true ↔ xs = ys
  | [], [], _, _ => by simp [D.pys, PyData.eqvAll]
  | [], _ :: _, _, _ => by simp [D.pys, PyData.eqvAll]
  | _ :: _, [], _, _ => by simp [D.pys, PyData.eqvAll]
  | x :: xs, y :: ys, _, h => by
    rw [List.map_cons, List.map_cons, D.pys, D.pys, PyData.eqvAll, Bool.and_eq_true, eqv_pys xs ys h]
    have := h.eq x y
    unfold deq at this
    rw [this]
    simp

theorem eqL {n : Nat} (h : EqOk n ea) : EqOk (n + 1) (eL ea) := ⟨fun a => by
    show (a.map ea).all (dok n) = true
    simp only [List.all_eq_true]
    intro x hx
    obtain ⟨y, _, rfl⟩ := List.mem_map.mp hx
    exact h.ok y, fun a b => by
    show PyData.eqv (D.py (.l (a.map ea))) (D.py (.l (b.map ea))) = true ↔ _
    rw [D.py, D.py, PyData.eqv]
    exact eqv_pys a b h⟩
theorem eqT {n : Nat} (h : EqOk n ea) : EqOk (n + 1) (eTu ea) := ⟨fun a => by
    show (a.map ea).all (dok n) = true
    simp only [List.all_eq_true]
    intro x hx
    obtain ⟨y, _, rfl⟩ := List.mem_map.mp hx
    exact h.ok y, fun a b => by
    show PyData.eqv (D.py (.t (a.map ea))) (D.py (.t (b.map ea))) = true ↔ _
    rw [D.py, D.py, PyData.eqv]
    exact eqv_pys a b h⟩
theorem eqP2 {n : Nat} (h1 : EqOk n ea) (h2 : EqOk n eb) : EqOk (n + 1) (eP2 ea eb) := ⟨fun a => by
    show [ea a.1, eb a.2].all (dok n) = true
    simp [h1.ok, h2.ok], fun a b => by
    have e1 := h1.eq a.1 b.1
    have e2 := h2.eq a.2 b.2
    unfold deq at e1 e2
    show PyData.eqv (D.py (.t [ea a.1, eb a.2])) (D.py (.t [ea b.1, eb b.2])) = true ↔ _
    rw [D.py, D.py, PyData.eqv, D.pys, D.pys, D.pys, D.pys, D.pys, D.pys, PyData.eqvAll, PyData.eqvAll, PyData.eqvAll, Bool.and_eq_true, Bool.and_eq_true, e1, e2]
    constructor
    · rintro ⟨h1, h2, _⟩; exact Prod.ext h1 h2
    · rintro rfl; exact ⟨rfl, rfl, rfl⟩⟩
theorem eqB (n : Nat) : EqOk n eB := ⟨fun _ => by cases n <;> rfl, fun a b => by cases a <;> cases b <;> simp [deq, D.py, PyData.eqv]⟩
theorem o_eq [DecidableEq α] (h : EqOk 12 ea) {a b : α} : RE1 .sh eB (.ok (decide (a = b))) (kEq (k1.v (ea a)) (k2.v (ea b))) := by
  show kEq _ _ = .ok (.sh (.b (decide (a = b))))
  unfold kEq
  rw [Kd.v_d, Kd.v_d, if_pos ⟨h.ok a, h.ok b⟩]
  show okb (deq (ea a) (ea b)) = _
  have := h.eq a b
  by_cases hab : a = b
  · rw [this.mpr hab, decide_eq_true hab]; rfl
  · have : deq (ea a) (ea b) = false := by rw [← Bool.not_eq_true]; exact fun e => hab (this.mp e)
    rw [this, decide_eq_false hab]; rfl
theorem o_ne [DecidableEq α] (h : EqOk 12 ea) {a b : α} : RE1 .sh eB (.ok (!decide (a = b))) (kNe (k1.v (ea a)) (k2.v (ea b))) := by
  show kNe _ _ = .ok (.sh (.b (!decide (a = b))))
  unfold kNe
  rw [Kd.v_d, Kd.v_d, if_pos ⟨h.ok a, h.ok b⟩]
  show okb (!deq (ea a) (ea b)) = _
  have := h.eq a b
  by_cases hab : a = b
  · rw [this.mpr hab, decide_eq_true hab]; rfl
  · have : deq (ea a) (ea b) = false := by rw [← Bool.not_eq_true]; exact fun e => hab (this.mp e)
    rw [this, decide_eq_false hab]; rfl
theorem dok_s {n : Nat} {x : Str} : dok n (.s x) = PyData.strOk x := by cases n <;> rfl
theorem deq_s {x y : Str} : deq (.s x) (.s y) = decide (x = y) := by
  show (x == y) = _
  by_cases h : x = y
  · subst h; simp
  · simp [h]
@[irreducible] def eqsT (a b : Str) : Re Bool := if PyData.strOk a = true ∧ PyData.strOk b = true then .ok (decide (a = b)) else .bad
theorem o_eqs {a b : Str} : RE1 .sh eB (eqsT a b) (kEq (k1.v (eS a)) (k2.v (eS b))) := by
  unfold eqsT
  split
  · rename_i h
    show kEq _ _ = _
    unfold kEq
    rw [Kd.v_d, Kd.v_d, if_pos ⟨by rw [dok_s]; exact h.1, by rw [dok_s]; exact h.2⟩, deq_s]
    rfl
  · trivial
theorem eqsT_ok {a b : Str} (h1 : PyData.strOk a = true) (h2 : PyData.strOk b = true) : eqsT a b = .ok (decide (a = b)) := by unfold eqsT; exact if_pos ⟨h1, h2⟩
@[irreducible] def nesT (a b : Str) : Re Bool := if PyData.strOk a = true ∧ PyData.strOk b = true then .ok (!decide (a = b)) else .bad
theorem o_nes {a b : Str} : RE1 .sh eB (nesT a b) (kNe (k1.v (eS a)) (k2.v (eS b))) := by
  unfold nesT
  split
  · rename_i h
    show kNe _ _ = _
    unfold kNe
    rw [Kd.v_d, Kd.v_d, if_pos ⟨by rw [dok_s]; exact h.1, by rw [dok_s]; exact h.2⟩, deq_s]
    rfl
  · trivial
def eqqT [DecidableEq α] (a b : α) : Re Bool := if a = b then .ok true else .bad
def neqT [DecidableEq α] (a b : α) : Re Bool := if a = b then .ok false else .bad
theorem any_deq [DecidableEq α] {n : Nat} (h : EqOk n ea) (a : α) (xs : List α) : ((xs.map ea).any fun z => deq z (ea a)) = decide (a ∈ xs) := by
  induction xs with
  | nil => rfl
  | cons x xs ih =>
    rw [List.map_cons, List.any_cons, ih]
    have := h.eq x a
    by_cases hx : x = a
    · subst hx; rw [this.mpr rfl]; simp
    · have h0 : deq (ea x) (ea a) = false := by rw [← Bool.not_eq_true]; exact fun e => hx (this.mp e)
      rw [h0]
      have : ¬ a = x := fun e => hx e.symm
      simp [this]
theorem o_in [DecidableEq α] (h : EqOk 11 ea) (h' : EqOk 12 ea) {neg : Bool} {a : α} {xs : List α} : RE1 .sh eB (.ok (if neg then !decide (a ∈ xs) else decide (a ∈ xs))) (kIn neg (k1.v (ea a)) (k2.v (eL ea xs))) := by
  show kIn _ _ _ = _
  unfold kIn inD
  rw [Kd.v_d, Kd.v_d]
  dsimp only
  rw [if_pos ⟨h'.ok a, (eqL h).ok xs⟩]
  dsimp only
  rw [any_deq h]
  rfl
@[irreducible] def insT (neg : Bool) (a : Str) (xs : List Str) : Re Bool := if PyData.strOk a = true ∧ xs.all PyData.strOk = true then .ok (if neg then !decide (a ∈ xs) else decide (a ∈ xs)) else .bad
theorem any_deqs (a : Str) (xs : List Str) : ((xs.map eS).any fun z => deq z (eS a)) = decide (a ∈ xs) := by
  induction xs with
  | nil => rfl
  | cons x xs ih =>
    rw [List.map_cons, List.any_cons, ih, deq_s]
    by_cases hx : x = a
    · subst hx; simp
    · have : ¬ a = x := fun e => hx e.symm
      simp [this, hx]
theorem o_ins {neg : Bool} {a : Str} {xs : List Str} : RE1 .sh eB (insT neg a xs) (kIn neg (k1.v (eS a)) (k2.v (eL eS xs))) := by
  unfold insT
  split
  · rename_i h
    show kIn _ _ _ = _
    unfold kIn inD
    rw [Kd.v_d, Kd.v_d]
    dsimp only
    have h2 : dok 12 (.l (xs.map eS)) = true := by
      show (xs.map eS).all (dok 11) = true
      have := h.2
      simp only [List.all_eq_true] at this ⊢
      intro x hx
      obtain ⟨y, hy, rfl⟩ := List.mem_map.mp hx
      rw [dok_s]; exact this y hy
    rw [if_pos ⟨by rw [dok_s]; exact h.1, h2⟩]
    dsimp only
    rw [any_deqs]
    rfl
  · trivial
def alook {κ : Type} [DecidableEq κ] : List (κ × α) → κ → Option α
  | [], _ => none
  | p :: A, k => if p.1 = k then some p.2 else alook A k
def aput {κ : Type} [DecidableEq κ] (A : List (κ × α)) (k : κ) (v : α) : List (κ × α) :=
  if k ∈ A.map (·.1) then A.map fun p => if p.1 = k then (p.1, v) else p else A ++ [(k, v)]
theorem kget_map {κ κ' : Type} [DecidableEq κ] [DecidableEq κ'] {c : κ → κ'} (hc : ∀ a b, c a = c b → a = b) (A : List (κ × α)) (k : κ) : kget (A.map fun p => c p.1) (A.map fun p => ea p.2) (c k) = (alook A k).map ea := by
  induction A with
  | nil => rfl
  | cons p A ih =>
    rw [List.map_cons, List.map_cons, kget, alook, ih]
    by_cases h : p.1 = k
    · rw [if_pos h, if_pos (by rw [h])]; rfl
    · rw [if_neg h, if_neg fun e => h (hc _ _ e)]
theorem kput_map {κ κ' : Type} [DecidableEq κ] [DecidableEq κ'] {c : κ → κ'} (hc : ∀ a b, c a = c b → a = b) (A : List (κ × α)) (k : κ) (v : α) : kput (A.map fun p => c p.1) (A.map fun p => ea p.2) (c k) (ea v) = ((aput A k v).map fun p => c p.1, (aput A k v).map fun p => ea p.2) := by
  have hm : c k ∈ (A.map fun p => c p.1) ↔ k ∈ A.map (·.1) := by
    simp only [List.mem_map]
    constructor
    · rintro ⟨p, h1, h2⟩; exact ⟨p, h1, hc _ _ h2⟩
    · rintro ⟨p, h1, h2⟩; exact ⟨p, h1, by rw [h2]⟩
  unfold kput aput
  by_cases h : k ∈ A.map (·.1)
  · rw [if_pos h, if_pos (hm.mpr h)]
    refine Prod.ext ?_ ?_
    · show _ = List.map _ (List.map _ A)
      rw [List.map_map]
      apply List.map_congr_left
      intro p _
      show _ = c (if p.1 = k then (p.1, v) else p).1
      split <;> rfl
    · show List.map _ (List.zip _ _) = List.map _ (List.map _ A)
      rw [List.map_map, List.zip_map', List.map_map]
      apply List.map_congr_left
      intro p _
      show (if c p.1 = c k then ea v else ea p.2) = ea (if p.1 = k then (p.1, v) else p).2
      by_cases h2 : p.1 = k
      · rw [if_pos h2, if_pos (by rw [h2])]
      · rw [if_neg h2, if_neg fun e => h2 (hc _ _ e)]
  · rw [if_neg h, if_neg fun e => h (hm.mp e)]
    simp
theorem inl_inj : ∀ a b : Int, (Sum.inl a : Key) = .inl b → a = b := fun _ _ h => Sum.inl.inj h
theorem o_inD {neg : Bool} {a : Int} {A : List (Int × α)} : RE1 .sh eB (.ok (if neg then !(alook A a).isSome else (alook A a).isSome)) (kIn neg (k1.v (eI a)) (k2.v (eDk ea A))) := by
  show kIn _ _ _ = _
  unfold kIn inD
  rw [Kd.v_d, Kd.v_d]
  dsimp only [dlook, D.key?, Option.map_some]
  rw [kget_map (ea := ea) inl_inj A a]
  cases alook A a <;> rfl
def dgetT {κ : Type} [DecidableEq κ] (A : List (κ × α)) (a : κ) : Re α := match alook A a with
  | some v => .ok v | none => .bad
theorem o_dget {a : Int} {A : List (Int × α)} : RE1 .sh ea (dgetT A a) (kDget (k1.v (eDk ea A)) (k2.v (eI a))) := by
  unfold dgetT
  split
  · rename_i v hv
    show kDget _ _ = _
    unfold kDget
    rw [Kd.v_d, Kd.v_d]
    dsimp only [dlook, D.key?, Option.map_some]
    rw [kget_map (ea := ea) inl_inj A a, hv]
    rfl
  · trivial
def ixT (xs : List α) (i : Int) : Re α := match atI xs i with
  | some a => .ok a | none => .bad
theorem atI_map (xs : List α) (i : Int) : atI (xs.map ea) i = (atI xs i).map ea := by
  unfold atI
  rw [List.length_map]
  cases ixN xs.length i with
  | none => rfl
  | some j => simp
theorem o_ix {xs : List α} {i : Int} : RE1 .sh ea (ixT xs i) (kIx (k1.v (eL ea xs)) (k2.v (eI i))) := by
  have : kIx (k1.v (eL ea xs)) (k2.v (eI i)) = ixR (xs.map ea) i := by cases k1 <;> cases k2 <;> rfl
  rw [this]
  unfold ixT ixR
  rw [atI_map]
  cases atI xs i with
  | none => trivial
  | some a => rfl
theorem o_ixT {xs : List α} {i : Int} : RE1 .sh ea (ixT xs i) (kIx (k1.v (eTu ea xs)) (k2.v (eI i))) := by
  have : kIx (k1.v (eTu ea xs)) (k2.v (eI i)) = ixR (xs.map ea) i := by cases k1 <;> cases k2 <;> rfl
  rw [this]
  unfold ixT ixR
  rw [atI_map]
  cases atI xs i with
  | none => trivial
  | some a => rfl
theorem ixT_ok {xs : List α} {i : Int} {n : Nat} {a : α} (e : i = (n : Int)) (h : xs[n]? = some a) : ixT xs i = .ok a := by unfold ixT; rw [atI_is e h]
theorem kIxt {ds : List D} {i : Int} : kIx (k1.v (.t ds)) (k2.v (eI i)) = ixR ds i := by cases k1 <;> cases k2 <;> rfl
theorem o_ixP0 {p : α × β} : RE1 .sh ea (.ok p.1) (kIx (k1.v (eP2 ea eb p)) (k2.v (eI 0))) := by show kIx _ _ = _; rw [kIxt, ixR_0]; rfl
theorem o_ixP1 {p : α × β} : RE1 .sh eb (.ok p.2) (kIx (k1.v (eP2 ea eb p)) (k2.v (eI 1))) := by show kIx _ _ = _; rw [kIxt, ixR_1]; rfl
theorem o_ixQ0 {p : α × β × γ} : RE1 .sh ea (.ok p.1) (kIx (k1.v (eP3 ea eb ec p)) (k2.v (eI 0))) := by show kIx _ _ = _; rw [kIxt, ixR_0]; rfl
theorem o_ixQ1 {p : α × β × γ} : RE1 .sh eb (.ok p.2.1) (kIx (k1.v (eP3 ea eb ec p)) (k2.v (eI 1))) := by show kIx _ _ = _; rw [kIxt, ixR_1]; rfl
theorem o_ixQ2 {p : α × β × γ} : RE1 .sh ec (.ok p.2.2) (kIx (k1.v (eP3 ea eb ec p)) (k2.v (eI 2))) := by show kIx _ _ = _; rw [kIxt, ixR_2]; rfl
theorem o_cl0 {c : Str × List Int} : RE1 .sh eS (.ok c.1) (kIx (k1.v (eCl c)) (k2.v (eI 0))) := by show kIx _ _ = _; rw [kIxt, ixR_0]; rfl
def argT (c : Str × List Int) (n : Nat) : Re Int := match c.2[n]? with
  | some a => .ok a | none => .bad
theorem o_cl (n : Nat) {c : Str × List Int} {i : Int} (hi : i = ((n + 1 : Nat) : Int)) : RE1 .sh eI (argT c n) (kIx (k1.v (eCl c)) (k2.v (eI i))) := by
  unfold argT
  split
  · rename_i a h
    show kIx _ _ = _
    rw [kIxt, ixR_is hi (d := .i a) (by simp [h])]
    rfl
  · trivial
end
end Ly
end

section
set_option maxRecDepth 100000
namespace Ly
open PySem PySem.Spec L2
open PyProof.Rows hiding St
section
variable {m : Nat} {L : Lk} {k k1 k2 k3 k4 k5 : Kd} {α β γ δ ε τ : Type} {e : τ → D} {ea : α → D} {eb : β → D} {ec : γ → D} {ed : δ → D} {ee : ε → D} {f g h f4 f5 : FE} {ft gt : FT} {fa fb : FA} {fi : FI}
theorem tr_v {x : Re Bool} (hx : ER m L .sh eB x f) : TR m L x (tV f) := fun Γ hΓ => by
  have h1 := hx Γ hΓ
  cases x with
  | ok a => have h1 : f Γ = .ok (.sh (.b a)) := h1; show (f Γ).bind kB = _; rw [h1]; rfl
  | ex z => have h1 : f Γ = .ex z := h1; show (f Γ).bind kB = _; rw [h1]; rfl
  | bad => trivial
theorem tr_not {x : Re Bool} (hx : TR m L x ft) : TR m L (x.bind fun b => .ok (!b)) (tNotF ft) := fun Γ hΓ => by
  have h1 := hx Γ hΓ
  cases x with
  | ok a => have h1 : ft Γ = .ok a := h1; show (ft Γ).bind _ = _; rw [h1]; rfl
  | ex z => have h1 : ft Γ = .ex z := h1; show (ft Γ).bind _ = _; rw [h1]; rfl
  | bad => trivial
theorem tr_notp {p : Bool} (hx : TR m L (.ok p) ft) : TR m L (.ok (!p)) (tNotF ft) := tr_not hx
theorem tr_and {x y : Re Bool} (hx : TR m L x ft) (hy : TR m L y gt) : TR m L (x.bind fun b => if b = true then y else .ok false) (tAndF ft gt) := fun Γ hΓ => by
  have h1 := hx Γ hΓ
  cases x with
  | ok a =>
    have h1 : ft Γ = .ok a := h1
    show RT (if a = true then y else .ok false) ((ft Γ).bind _)
    rw [h1]
    cases a with
    | true => exact hy Γ hΓ
    | false => rfl
  | ex z => have h1 : ft Γ = .ex z := h1; show (ft Γ).bind _ = _; rw [h1]; rfl
  | bad => trivial
theorem tr_or {x y : Re Bool} (hx : TR m L x ft) (hy : TR m L y gt) : TR m L (x.bind fun b => if b = true then .ok true else y) (tOrF ft gt) := fun Γ hΓ => by
  have h1 := hx Γ hΓ
  cases x with
  | ok a =>
    have h1 : ft Γ = .ok a := h1
    show RT (if a = true then .ok true else y) ((ft Γ).bind _)
    rw [h1]
    cases a with
    | true => rfl
    | false => exact hy Γ hΓ
  | ex z => have h1 : ft Γ = .ex z := h1; show (ft Γ).bind _ = _; rw [h1]; rfl
  | bad => trivial
theorem tr_andp {p q : Bool} (hx : TR m L (.ok p) ft) (hy : TR m L (.ok q) gt) : TR m L (.ok (p && q)) (tAndF ft gt) := by
  have := tr_and hx hy
  cases p <;> exact this
theorem tr_orp {p q : Bool} (hx : TR m L (.ok p) ft) (hy : TR m L (.ok q) gt) : TR m L (.ok (p || q)) (tOrF ft gt) := by
  have := tr_or hx hy
  cases p <;> exact this
theorem er_not {x : Re Bool} (hx : ER m L .sh eB x f) : ER m L .sh eB (x.bind fun b => .ok (!b)) (eNot f) := fun Γ hΓ => by
  have h1 := hx Γ hΓ
  cases x with
  | ok a => have h1 : f Γ = .ok (.sh (.b a)) := h1; show eNot f Γ = _; unfold eNot; rw [h1]; rfl
  | ex z => have h1 : f Γ = .ex z := h1; show eNot f Γ = _; unfold eNot; rw [h1]; rfl
  | bad => trivial
theorem er_and {x y : Re Bool} (hx : ER m L .sh eB x f) (hy : ER m L .sh eB y g) : ER m L .sh eB (x.bind fun b => if b = true then y else .ok false) (eAnd f g) := fun Γ hΓ => by
  have h1 := hx Γ hΓ
  cases x with
  | ok a =>
    have h1 : f Γ = .ok (.sh (.b a)) := h1
    show RE1 .sh eB (if a = true then y else .ok false) (eAnd f g Γ)
    unfold eAnd
    rw [h1]
    cases a with
    | true => exact hy Γ hΓ
    | false => rfl
  | ex z => have h1 : f Γ = .ex z := h1; show eAnd f g Γ = _; unfold eAnd; rw [h1]; rfl
  | bad => trivial
theorem er_or {x y : Re Bool} (hx : ER m L .sh eB x f) (hy : ER m L .sh eB y g) : ER m L .sh eB (x.bind fun b => if b = true then .ok true else y) (eOr f g) := fun Γ hΓ => by
  have h1 := hx Γ hΓ
  cases x with
  | ok a =>
    have h1 : f Γ = .ok (.sh (.b a)) := h1
    show RE1 .sh eB (if a = true then .ok true else y) (eOr f g Γ)
    unfold eOr
    rw [h1]
    cases a with
    | true => rfl
    | false => exact hy Γ hΓ
  | ex z => have h1 : f Γ = .ex z := h1; show eOr f g Γ = _; unfold eOr; rw [h1]; rfl
  | bad => trivial
theorem er_notp {p : Bool} (hx : ER m L .sh eB (.ok p) f) : ER m L .sh eB (.ok (!p)) (eNot f) := er_not hx
theorem er_andp {p q : Bool} (hx : ER m L .sh eB (.ok p) f) (hy : ER m L .sh eB (.ok q) g) : ER m L .sh eB (.ok (p && q)) (eAnd f g) := by
  have := er_and hx hy
  cases p <;> exact this
theorem er_orp {p q : Bool} (hx : ER m L .sh eB (.ok p) f) (hy : ER m L .sh eB (.ok q) g) : ER m L .sh eB (.ok (p || q)) (eOr f g) := by
  have := er_or hx hy
  cases p <;> exact this
theorem er_ch {a : α} {b : β} {c : γ} {p q : Bool} {o o' : Rv → Rv → Re Rv} (hx : ER m L k1 ea (.ok a) f) (hy : ER m L k2 eb (.ok b) g) (hz : ER m L k3 ec (.ok c) h) (h1 : RE1 .sh eB (.ok p) (o (k1.v (ea a)) (k2.v (eb b)))) (h2 : RE1 .sh eB (.ok q) (o' (k2.v (eb b)) (k3.v (ec c)))) :
    ER m L .sh eB (.ok (p && q)) (eCh o o' f g h) := fun Γ hΓ => by
  have e1 : f Γ = .ok _ := hx Γ hΓ
  have e2 : g Γ = .ok _ := hy Γ hΓ
  have e3 : h Γ = .ok _ := hz Γ hΓ
  have h1 : o _ _ = .ok (.sh (.b p)) := h1
  have h2 : o' _ _ = .ok (.sh (.b q)) := h2
  show eCh o o' f g h Γ = _
  unfold eCh
  rw [e1, Re.bind_ok, e2, Re.bind_ok, h1, Re.bind_ok]
  cases p with
  | true => dsimp only; rw [e3, Re.bind_ok, h2]; rfl
  | false => rfl
theorem er_chm {a : α} {b : β} {p : Bool} {y : Re γ} {t : γ → Re Bool} {o o' : Rv → Rv → Re Rv} (hx : ER m L k1 ea (.ok a) f) (hy : ER m L k2 eb (.ok b) g) (hz : ER m L k3 ec y h) (h1 : RE1 .sh eB (.ok p) (o (k1.v (ea a)) (k2.v (eb b)))) (h2 : ∀ c, RE1 .sh eB (t c) (o' (k2.v (eb b)) (k3.v (ec c)))) :
    ER m L .sh eB (if p = true then y.bind t else .ok false) (eCh o o' f g h) := fun Γ hΓ => by
  have e1 : f Γ = .ok _ := hx Γ hΓ
  have e2 : g Γ = .ok _ := hy Γ hΓ
  have e3 := hz Γ hΓ
  have h1 : o _ _ = .ok (.sh (.b p)) := h1
  show RE1 _ _ _ (eCh o o' f g h Γ)
  unfold eCh
  rw [e1, Re.bind_ok, e2, Re.bind_ok, h1, Re.bind_ok]
  cases p with
  | true =>
    dsimp only
    rw [if_pos rfl]
    cases y with
    | ok c => have e3 : h Γ = .ok _ := e3; rw [e3]; exact h2 c
    | ex z => have e3 : h Γ = .ex z := e3; rw [e3]; rfl
    | bad => trivial
  | false => rfl
theorem er_chb {x : Re α} {z : Re Bool} {F : FE} (hx : ER m L k1 ea x f) {G : Rv → Env' → Re Rv} (hF : ∀ Γ, F Γ = (f Γ).bind fun r => G r Γ) {t : α → Re Bool} (ht : ∀ a, ER m L .sh eB (t a) (fun Γ => G (k1.v (ea a)) Γ)) : ER m L .sh eB (x.bind t) F := fun Γ hΓ => by
  have e1 := hx Γ hΓ
  rw [hF]
  cases x with
  | ok a => have e1 : f Γ = .ok _ := e1; rw [e1]; exact ht a Γ hΓ
  | ex z => have e1 : f Γ = .ex z := e1; rw [e1]; rfl
  | bad => trivial
theorem er_if {x : Re Bool} {y z : Re τ} (hx : TR m L x ft) (hy : ER m L k e y f) (hz : ER m L k e z g) : ER m L k e (x.bind fun b => if b = true then y else z) (eIf ft f g) := fun Γ hΓ => by
  have h1 := hx Γ hΓ
  cases x with
  | ok a =>
    have h1 : ft Γ = .ok a := h1
    show RE1 k e (if a = true then y else z) ((ft Γ).bind _)
    rw [h1]
    cases a with
    | true => exact hy Γ hΓ
    | false => exact hz Γ hΓ
  | ex w => have h1 : ft Γ = .ex w := h1; show (ft Γ).bind _ = _; rw [h1]; rfl
  | bad => trivial
theorem er_ifp {p : Bool} {a b : τ} (hx : TR m L (.ok p) ft) (hy : ER m L k e (.ok a) f) (hz : ER m L k e (.ok b) g) : ER m L k e (.ok (if p = true then a else b)) (eIf ft f g) := by
  have := er_if hx hy hz
  cases p <;> exact this

def LR (m : Nat) (L : Lk) (e : τ → D) (x : Re (List τ)) (fa : FA) : Prop := ∀ Γ, Ag m L Γ → match x with
  | .ok as => fa Γ = .ok (as.map e) | .ex z => fa Γ = .ex z | .bad => True
theorem lr_n : LR m L e (.ok []) aNil := fun _ _ => rfl
theorem lr_cp {a : τ} {as : List τ} (hk : k1.ok = true) (hx : ER m L k1 e (.ok a) f) (hy : LR m L e (.ok as) fa) : LR m L e (.ok (a :: as)) (aCons f fa) := fun Γ hΓ => by
  have h1 : f Γ = .ok _ := hx Γ hΓ
  have h2 : fa Γ = .ok _ := hy Γ hΓ
  show aCons f fa Γ = _
  rw [aCons_at, h1, Re.bind_ok, Kd.share hk, Re.bind_ok, h2]
  rfl
theorem lr_c {x : Re τ} {y : Re (List τ)} (hk : k1.ok = true) (hx : ER m L k1 e x f) (hy : LR m L e y fa) : LR m L e (x.bind fun a => y.bind fun as => .ok (a :: as)) (aCons f fa) := fun Γ hΓ => by
  have h1 := hx Γ hΓ
  have h2 := hy Γ hΓ
  cases x with
  | ok a =>
    have h1 : f Γ = .ok _ := h1
    simp only [aCons_at, h1, Re.bind_ok, Kd.share hk]
    cases y with
    | ok as => have h2 : fa Γ = .ok _ := h2; simp only [h2]; rfl
    | ex z => have h2 : fa Γ = .ex z := h2; simp only [h2]; rfl
    | bad => trivial
  | ex z => have h1 : f Γ = .ex z := h1; rw [aCons_at, h1]; rfl
  | bad => trivial
@[irreducible] def lcP (ys : List τ) : Re (List τ) := if ys.length ≤ 16777216 then .ok ys else .bad
theorem lcP_ok {ys : List τ} (h : ys.length ≤ 16777216) : lcP ys = .ok ys := by unfold lcP; exact if_pos h
theorem er_lst {x : Re (List τ)} (hx : LR m L e x fa) : ER m L .fr (eL e) (x.bind lcP) (eLst fa) := fun Γ hΓ => by
  have h1 := hx Γ hΓ
  cases x with
  | ok as =>
    have h1 : fa Γ = .ok _ := h1
    show RE1 .fr (eL e) (lcP as) (eLst fa Γ)
    rw [eLst_at, h1, Re.bind_ok]
    unfold lcP
    by_cases hl : as.length ≤ 16777216
    · rw [if_pos hl, if_pos (by simpa using hl)]; rfl
    · rw [if_neg hl]; trivial
  | ex z => have h1 : fa Γ = .ex z := h1; show eLst fa Γ = _; rw [eLst_at, h1]; rfl
  | bad => trivial
theorem er_lstp {as : List τ} (hx : LR m L e (.ok as) fa) (hl : as.length ≤ 16777216) : ER m L .fr (eL e) (.ok as) (eLst fa) := by
  have := er_lst hx
  rw [Re.bind_ok, lcP_ok hl] at this
  exact this
theorem er_tupu {x : Re (List τ)} (hx : LR m L e x fa) : ER m L .sh (eTu e) (x.bind lcP) (eTup fa) := fun Γ hΓ => by
  have h1 := hx Γ hΓ
  cases x with
  | ok as =>
    have h1 : fa Γ = .ok _ := h1
    show RE1 .sh (eTu e) (lcP as) (eTup fa Γ)
    rw [eTup_at, h1, Re.bind_ok]
    unfold lcP
    by_cases hl : as.length ≤ 16777216
    · rw [if_pos hl, if_pos (by simpa using hl)]; rfl
    · rw [if_neg hl]; trivial
  | ex z => have h1 : fa Γ = .ex z := h1; show eTup fa Γ = _; rw [eTup_at, h1]; rfl
  | bad => trivial
theorem er_tupup {as : List τ} (hx : LR m L e (.ok as) fa) (hl : as.length ≤ 16777216) : ER m L .sh (eTu e) (.ok as) (eTup fa) := by
  have := er_tupu hx
  rw [Re.bind_ok, lcP_ok hl] at this
  exact this
theorem er_tupcl {x : Re Str} {y : Re (List Int)} (hk : k1.ok = true) (hx : ER m L k1 eS x f) (hy : LR m L eI y fa) : ER m L .sh eCl (x.bind fun w => y.bind fun as => if as.length < 16777216 then .ok (w, as) else .bad) (eTup (aCons f fa)) := fun Γ hΓ => by
  have h1 := hx Γ hΓ
  have h2 := hy Γ hΓ
  rw [eTup_at, aCons_at]
  cases x with
  | ok w =>
    have h1 : f Γ = .ok _ := h1
    simp only [h1, Re.bind_ok, Kd.share hk]
    cases y with
    | ok as =>
      have h2 : fa Γ = .ok _ := h2
      simp only [h2, Re.bind_ok]
      show RE1 .sh eCl (if as.length < 16777216 then .ok (w, as) else .bad) _
      by_cases hl : as.length < 16777216
      · rw [if_pos hl, if_pos (by simp; omega)]; rfl
      · rw [if_neg hl]; trivial
    | ex z => have h2 : fa Γ = .ex z := h2; simp only [h2]; rfl
    | bad => trivial
  | ex z => have h1 : f Γ = .ex z := h1; rw [h1]; rfl
  | bad => trivial
theorem er_tupclp {w : Str} {as : List Int} (hk : k1.ok = true) (hx : ER m L k1 eS (.ok w) f) (hy : LR m L eI (.ok as) fa) (hl : as.length < 16777216) : ER m L .sh eCl (.ok (w, as)) (eTup (aCons f fa)) := by
  have := er_tupcl hk hx hy
  simp only [Re.bind_ok, if_pos hl] at this
  exact this
theorem er_tup2 {x : Re α} {y : Re β} (hk1 : k1.ok = true) (hx : ER m L k1 ea x f) (hk2 : k2.ok = true) (hy : ER m L k2 eb y g) : ER m L .sh (eP2 ea eb) (x.bind fun a => y.bind fun b => .ok (a, b)) (eTup (aCons f (aCons g aNil))) := fun Γ hΓ => by
  have h1 := hx Γ hΓ
  have h2 := hy Γ hΓ
  rw [eTup_at, aCons_at]
  cases x with
  | ok a =>
    have h1 : f Γ = .ok _ := h1
    simp only [h1, Re.bind_ok, Kd.share hk1, aCons_at]
    cases y with
    | ok b => have h2 : g Γ = .ok _ := h2; simp only [h2, Re.bind_ok, Kd.share hk2]; rfl
    | ex z => have h2 : g Γ = .ex z := h2; simp only [h2]; rfl
    | bad => trivial
  | ex z => have h1 : f Γ = .ex z := h1; rw [h1]; rfl
  | bad => trivial
theorem er_tup3 {x : Re α} {y : Re β} {z : Re γ} (hk1 : k1.ok = true) (hx : ER m L k1 ea x f) (hk2 : k2.ok = true) (hy : ER m L k2 eb y g) (hk3 : k3.ok = true) (hz : ER m L k3 ec z h) :
    ER m L .sh (eP3 ea eb ec) (x.bind fun a => y.bind fun b => z.bind fun c => .ok (a, b, c)) (eTup (aCons f (aCons g (aCons h aNil)))) := fun Γ hΓ => by
  have h1 := hx Γ hΓ
  have h2 := hy Γ hΓ
  have h3 := hz Γ hΓ
  rw [eTup_at, aCons_at]
  cases x with
  | ok a =>
    have h1 : f Γ = .ok _ := h1
    simp only [h1, Re.bind_ok, Kd.share hk1, aCons_at]
    cases y with
    | ok b =>
      have h2 : g Γ = .ok _ := h2
      simp only [h2, Re.bind_ok, Kd.share hk2, aCons_at]
      cases z with
      | ok c => have h3 : h Γ = .ok _ := h3; simp only [h3, Re.bind_ok, Kd.share hk3]; rfl
      | ex w => have h3 : h Γ = .ex w := h3; rw [h3]; rfl
      | bad => trivial
    | ex w => have h2 : g Γ = .ex w := h2; rw [h2]; rfl
    | bad => trivial
  | ex w => have h1 : f Γ = .ex w := h1; rw [h1]; rfl
  | bad => trivial

theorem or_n : OR' m L (.ok none) oNo := fun _ _ => rfl
theorem or_i {x : Re Int} (hx : ER m L .sh eI x f) : OR' m L (x.bind fun a => .ok (some a)) (oIs f) := fun Γ hΓ => by
  have h1 := hx Γ hΓ
  cases x with
  | ok a => have h1 : f Γ = .ok _ := h1; show oIs f Γ = _; rw [oIs_at, h1]; rfl
  | ex z => have h1 : f Γ = .ex z := h1; show oIs f Γ = _; rw [oIs_at, h1]; rfl
  | bad => trivial
theorem er_sl {x : Re α} {lo hi : Re (Option Int)} {fl fh : FO} {t : α → Option Int → Option Int → Re τ} (hx : ER m L k1 ea x f) (hl : OR' m L lo fl) (hh : OR' m L hi fh) (ho : ∀ a l u, RE1 k e (t a l u) (kSl (k1.v (ea a)) l u)) :
    ER m L k e (x.bind fun a => lo.bind fun l => hi.bind fun u => t a l u) (eSl f fl fh) := fun Γ hΓ => by
  have h1 := hx Γ hΓ
  have h2 := hl Γ hΓ
  have h3 := hh Γ hΓ
  rw [eSl_at]
  cases x with
  | ok a =>
    have h1 : f Γ = .ok _ := h1
    rw [h1, Re.bind_ok]
    cases lo with
    | ok l =>
      have h2 : fl Γ = .ok _ := h2
      rw [h2, Re.bind_ok]
      cases hi with
      | ok u => have h3 : fh Γ = .ok _ := h3; rw [h3]; exact ho a l u
      | ex z => have h3 : fh Γ = .ex z := h3; rw [h3]; rfl
      | bad => trivial
    | ex z => have h2 : fl Γ = .ex z := h2; rw [h2]; rfl
    | bad => trivial
  | ex z => have h1 : f Γ = .ex z := h1; rw [h1]; rfl
  | bad => trivial
theorem o_slL {xs : List α} {lo hi : Option Int} : RE1 .fr (eL ea) (.ok (cut xs lo hi)) (kSl (k1.v (eL ea xs)) lo hi) := by
  show kSl _ _ _ = .ok (.fr (.l ((cut xs lo hi).map ea)))
  rw [← cut_map]
  cases k1 <;> rfl
theorem o_slT {xs : List α} {lo hi : Option Int} : RE1 .sh (eTu ea) (.ok (cut xs lo hi)) (kSl (k1.v (eTu ea xs)) lo hi) := by
  show kSl _ _ _ = .ok (.sh (.t ((cut xs lo hi).map ea)))
  rw [← cut_map]
  cases k1 <;> rfl
theorem kSlt {ds : List D} {lo hi : Option Int} : kSl (k1.v (.t ds)) lo hi = .ok (.sh (.t (cut ds lo hi))) := by cases k1 <;> rfl
def clFromT (c : Str × List Int) (l u : Option Int) : Re (List Int) := match l, u with
  | some i, none => if 1 ≤ i then .ok (c.2.drop (i - 1).toNat) else .bad
  | _, _ => .bad
def clToT (c : Str × List Int) (l u : Option Int) : Re (Str × List Int) := match l, u with
  | none, some i => if 1 ≤ i then .ok (c.1, c.2.take (i - 1).toNat) else .bad
  | _, _ => .bad
theorem o_clFrom {c : Str × List Int} {lo hi : Option Int} : RE1 .sh (eTu eI) (clFromT c lo hi) (kSl (k1.v (eCl c)) lo hi) := by
  unfold clFromT
  split
  · rename_i i
    split
    · rename_i hi
      show kSl _ _ _ = _
      rw [kSlt]
      congr 3
      obtain ⟨n, rfl⟩ : ∃ n : Nat, i = ((n + 1 : Nat) : Int) := ⟨(i - 1).toNat, by omega⟩
      have en : (((n + 1 : Nat) : Int) - 1).toNat = n := by omega
      rw [en]
      by_cases hl : n + 1 ≤ (D.s c.1 :: c.2.map D.i).length
      · rw [cut_from hl, List.drop_succ_cons, List.map_drop]
      · have e1 : HT.sIx (D.s c.1 :: c.2.map D.i).length (D.s c.1 :: c.2.map D.i).length none = (D.s c.1 :: c.2.map D.i).length := rfl
        have e2 : HT.sIx (D.s c.1 :: c.2.map D.i).length 0 (some ((n + 1 : Nat) : Int)) = (D.s c.1 :: c.2.map D.i).length := by simp only [HT.sIx]; split <;> omega
        simp only [List.length_cons, List.length_map] at hl
        have e3 : cut (D.s c.1 :: c.2.map D.i) (some ((n + 1 : Nat) : Int)) none = [] := by
          unfold cut
          rw [e1, e2, Nat.sub_self, List.take_zero]
        rw [e3, List.drop_eq_nil_of_le (by omega)]
        rfl
    · trivial
  · trivial
theorem o_clTo {c : Str × List Int} {lo hi : Option Int} : RE1 .sh eCl (clToT c lo hi) (kSl (k1.v (eCl c)) lo hi) := by
  unfold clToT
  split
  · rename_i i
    split
    · rename_i hi
      show kSl _ _ _ = _
      rw [kSlt]
      congr 3
      obtain ⟨n, rfl⟩ : ∃ n : Nat, i = ((n + 1 : Nat) : Int) := ⟨(i - 1).toNat, by omega⟩
      have en : (((n + 1 : Nat) : Int) - 1).toNat = n := by omega
      rw [en]
      by_cases hl : n + 1 ≤ (D.s c.1 :: c.2.map D.i).length
      · rw [cut_to hl, List.take_succ_cons, List.map_take]
      · have e1 : HT.sIx (D.s c.1 :: c.2.map D.i).length 0 none = 0 := rfl
        have e2 : HT.sIx (D.s c.1 :: c.2.map D.i).length (D.s c.1 :: c.2.map D.i).length (some ((n + 1 : Nat) : Int)) = (D.s c.1 :: c.2.map D.i).length := by simp only [HT.sIx]; split <;> omega
        simp only [List.length_cons, List.length_map] at hl
        have e3 : cut (D.s c.1 :: c.2.map D.i) none (some ((n + 1 : Nat) : Int)) = D.s c.1 :: c.2.map D.i := by
          unfold cut
          rw [e1, e2, Nat.sub_zero, List.drop_zero, List.take_length]
        rw [e3, List.take_of_length_le (by omega)]
    · trivial
  · trivial
@[irreducible] def catT (xs ys : List α) : Re (List α) := if xs.length + ys.length ≤ 16777216 then .ok (xs ++ ys) else .bad
theorem catT_ok {xs ys : List α} (h : xs.length + ys.length ≤ 16777216) : catT xs ys = .ok (xs ++ ys) := by unfold catT; exact if_pos h
theorem o_addL {xs ys : List α} : RE1 .fr (eL ea) (catT xs ys) (kAdd (k1.v (eL ea xs)) (k2.v (eL ea ys))) := by
  have : kAdd (k1.v (eL ea xs)) (k2.v (eL ea ys)) = if (xs.map ea).length + (ys.map ea).length ≤ sizeLine then .ok (.fr (.l (xs.map ea ++ ys.map ea))) else .bad := by cases k1 <;> cases k2 <;> rfl
  rw [this, sizeLine_eq]
  unfold catT
  split
  · rename_i h
    rw [if_pos (by simpa using h), ← List.map_append]; rfl
  · trivial
theorem o_addT {xs ys : List α} : RE1 .sh (eTu ea) (catT xs ys) (kAdd (k1.v (eTu ea xs)) (k2.v (eTu ea ys))) := by
  have : kAdd (k1.v (eTu ea xs)) (k2.v (eTu ea ys)) = if (xs.map ea).length + (ys.map ea).length ≤ sizeLine then .ok (.sh (.t (xs.map ea ++ ys.map ea))) else .bad := by cases k1 <;> cases k2 <;> rfl
  rw [this, sizeLine_eq]
  unfold catT
  split
  · rename_i h
    rw [if_pos (by simpa using h), ← List.map_append]; rfl
  · trivial
@[irreducible] def addclT (c : Str × List Int) (ys : List Int) : Re (Str × List Int) := if c.2.length + ys.length < 16777216 then .ok (c.1, c.2 ++ ys) else .bad
theorem o_addcl {c : Str × List Int} {ys : List Int} : RE1 .sh eCl (addclT c ys) (kAdd (k1.v (eCl c)) (k2.v (eTu eI ys))) := by
  have : kAdd (k1.v (eCl c)) (k2.v (eTu eI ys)) = if (D.s c.1 :: c.2.map D.i).length + (ys.map eI).length ≤ sizeLine then .ok (.sh (.t ((D.s c.1 :: c.2.map D.i) ++ ys.map eI))) else .bad := by cases k1 <;> cases k2 <;> rfl
  rw [this, sizeLine_eq]
  unfold addclT
  split
  · rename_i h
    rw [if_pos (by simp; omega)]
    show Re.ok (Rv.sh (D.t _)) = .ok (.sh (.t (.s c.1 :: (c.2 ++ ys).map .i)))
    rw [List.map_append]; rfl
  · trivial
@[irreducible] def addsT (a b : Str) : Re Str := if a.length + b.length ≤ sizeLine then .ok (a ++ b) else .bad
theorem o_adds {a b : Str} : RE1 .sh eS (addsT a b) (kAdd (k1.v (eS a)) (k2.v (eS b))) := by
  have : kAdd (k1.v (eS a)) (k2.v (eS b)) = if a.length + b.length ≤ sizeLine then .ok (.sh (.s (a ++ b))) else .bad := by cases k1 <;> cases k2 <;> rfl
  rw [this]
  unfold addsT
  split
  · rfl
  · trivial
@[irreducible] def repT (xs : List α) (n : Int) : Re (List α) := if -(2 ^ 63) ≤ n ∧ n < 2 ^ 63 ∧ xs.length * n.toNat ≤ 16777216 then .ok (List.replicate n.toNat xs).flatten else .bad
theorem o_rep {xs : List α} {n : Int} : RE1 .fr (eL ea) (repT xs n) (kMul (k1.v (eL ea xs)) (k2.v (eI n))) := by
  have : kMul (k1.v (eL ea xs)) (k2.v (eI n)) = if -(2 ^ 63) ≤ n ∧ n < 2 ^ 63 ∧ (xs.map ea).length * n.toNat ≤ sizeLine then .ok (.fr (.l (List.replicate n.toNat (xs.map ea)).flatten)) else .bad := by cases k1 <;> cases k2 <;> rfl
  rw [this, sizeLine_eq]
  unfold repT
  split
  · rename_i h
    rw [if_pos (by simpa using h)]
    show Re.ok (Rv.fr (D.l _)) = .ok (.fr (.l (List.map ea _)))
    rw [List.map_flatten, List.map_replicate]
  · trivial
theorem o_rev {xs : List α} : RE1 .fr (eL ea) (.ok xs.reverse) (kRev (k1.v (eL ea xs))) := by
  show _ = Re.ok (Rv.fr (D.l (List.map ea xs.reverse)))
  rw [List.map_reverse]
  cases k1 <;> rfl
theorem o_lenL {xs : List α} : RE1 .sh eI (.ok (xs.length : Int)) (kLen (k1.v (eL ea xs))) := by
  have : kLen (k1.v (eL ea xs)) = oki ((xs.map ea).length : Nat) := by cases k1 <;> rfl
  rw [this, List.length_map]; rfl
theorem o_lenT {xs : List α} : RE1 .sh eI (.ok (xs.length : Int)) (kLen (k1.v (eTu ea xs))) := by
  have : kLen (k1.v (eTu ea xs)) = oki ((xs.map ea).length : Nat) := by cases k1 <;> rfl
  rw [this, List.length_map]; rfl
theorem o_lenCl {c : Str × List Int} : RE1 .sh eI (.ok ((c.2.length + 1 : Nat) : Int)) (kLen (k1.v (eCl c))) := by
  have : kLen (k1.v (eCl c)) = oki ((D.s c.1 :: c.2.map D.i).length : Nat) := by cases k1 <;> rfl
  rw [this, List.length_cons, List.length_map]; rfl
def absI (a : Int) : Int := if a < 0 then -a else a
theorem o_abs {a : Int} : RE1 .sh eI (.ok (absI a)) (kAbs (k1.v (eI a))) := by cases k1 <;> rfl
theorem o_max2 {a b : Int} : RE1 .sh eI (.ok (if b > a then b else a)) (kMax2 (k1.v (eI a)) (k2.v (eI b))) := by cases k1 <;> cases k2 <;> rfl
theorem o_min2 {a b : Int} : RE1 .sh eI (.ok (if b < a then b else a)) (kMin2 (k1.v (eI a)) (k2.v (eI b))) := by cases k1 <;> cases k2 <;> rfl
theorem seq_v {ds : List D} : (k1.v (.l ds)).d.seq? = some ds := by rw [Kd.v_d]; rfl
theorem o_all {bs : List Bool} : RE1 .sh eB (.ok (bs.all id)) (kAll (k1.v (eL eB bs))) := by show kAll _ = _; unfold kAll; rw [seq_v]; dsimp only; rw [D.bools_map]; rfl
theorem o_any {bs : List Bool} : RE1 .sh eB (.ok (bs.any id)) (kAny (k1.v (eL eB bs))) := by show kAny _ = _; unfold kAny; rw [seq_v]; dsimp only; rw [D.bools_map]; rfl
theorem o_sum {zs : List Int} : RE1 .sh eI (.ok zs.sum) (kSum (k1.v (eL eI zs))) := by show kSum _ = _; unfold kSum; rw [seq_v]; dsimp only; rw [D.ints_map]; rfl
def maxT (zs : List Int) : Re Int := if 0 < zs.length then .ok (maxI zs) else .bad
def minT (zs : List Int) : Re Int := if 0 < zs.length then .ok (minI zs) else .bad
theorem o_max {zs : List Int} : RE1 .sh eI (maxT zs) (kMax (k1.v (eL eI zs))) := by
  unfold maxT
  split
  · rename_i h; show kMax _ = _; unfold kMax; rw [seq_v]; dsimp only; rw [D.ints_map]; dsimp only; rw [if_pos h]; rfl
  · trivial
theorem o_min {zs : List Int} : RE1 .sh eI (minT zs) (kMin (k1.v (eL eI zs))) := by
  unfold minT
  split
  · rename_i h; show kMin _ = _; unfold kMin; rw [seq_v]; dsimp only; rw [D.ints_map]; dsimp only; rw [if_pos h]; rfl
  · trivial
theorem o_sort {zs : List Int} : RE1 .fr (eL eI) (.ok (sortI zs)) (kSort (k1.v (eL eI zs))) := by show kSort _ = _; unfold kSort; rw [seq_v]; dsimp only; rw [D.ints_map]; rfl
theorem o_intB {b : Bool} : RE1 .sh eI (.ok (if b then 1 else 0)) (kInt (k1.v (eB b))) := by cases k1 <;> rfl
theorem o_list {xs : List α} : RE1 .fr (eL ea) (.ok xs) (kList (k1.v (eL ea xs))) := by cases k1 <;> rfl
theorem o_listT {xs : List α} : RE1 .fr (eL ea) (.ok xs) (kList (k1.v (eTu ea xs))) := by cases k1 <;> rfl
theorem o_tuple {xs : List α} : RE1 .sh (eTu ea) (.ok xs) (kTuple (k1.v (eL ea xs))) := by cases k1 <;> rfl
def rangeI (a b : Int) : List Int := (List.range (b - a).toNat).map fun i => a + (i : Nat)
theorem rgD_map (a b : Int) : rgD a b = (rangeI a b).map eI := by unfold rgD rangeI; rw [List.map_map]; rfl
@[irreducible] def lrT (a b : Int) : Re (List Int) := if rgOk a b = true then .ok (rangeI a b) else .bad
theorem lrT_ok {a b : Int} (h : rgOk a b = true) : lrT a b = .ok (rangeI a b) := by unfold lrT; exact if_pos h
theorem o_lr2 {a b : Int} : RE1 .fr (eL eI) (lrT a b) (kI kLr (k1.v (eI a)) (k2.v (eI b))) := by
  have : kI kLr (k1.v (eI a)) (k2.v (eI b)) = kLr a b := by cases k1 <;> cases k2 <;> rfl
  rw [this]
  unfold lrT kLr
  split
  · show _ = Re.ok (Rv.fr (D.l ((rangeI a b).map eI))); rw [rgD_map]
  · trivial
theorem o_lr1 {b : Int} : RE1 .fr (eL eI) (lrT 0 b) (kLr1 (k1.v (eI b))) := by
  have : kLr1 (k1.v (eI b)) = kLr 0 b := by cases k1 <;> rfl
  rw [this]
  unfold lrT kLr
  split
  · show _ = Re.ok (Rv.fr (D.l ((rangeI 0 b).map eI))); rw [rgD_map]
  · trivial
def idxT (xs : List Int) (a : Int) : Re Int := match xs.findIdx? (· == a) with
  | some j => .ok (j : Nat) | none => .bad
theorem er_idx {x : Re (List Int)} {y : Re Int} (hx : ER m L k1 (eL eI) x f) (hy : ER m L k2 eI y g) : ER m L .sh eI (x.bind fun a => y.bind fun b => idxT a b) (eIdx f g) := fun Γ hΓ => by
  have h1 := hx Γ hΓ
  have h2 := hy Γ hΓ
  unfold eIdx
  cases x with
  | ok a =>
    have h1 : f Γ = .ok _ := h1
    simp only [h1, Re.bind_ok, seq_v]
    cases y with
    | ok b =>
      have h2 : g Γ = .ok _ := h2
      simp only [h2, Re.bind_ok]
      show RE1 .sh eI (idxT a b) _
      unfold idxT kIdx
      rw [seq_v, Kd.v_d]
      dsimp only
      rw [D.ints_map]
      dsimp only
      cases a.findIdx? (· == b) with
      | some j => rfl
      | none => trivial
    | ex z => have h2 : g Γ = .ex z := h2; rw [h2]; rfl
    | bad => trivial
  | ex z => have h1 : f Γ = .ex z := h1; rw [h1]; rfl
  | bad => trivial
theorem er_dk0 {α : Type} {ea : α → D} : ER m L .fr (eDk ea) (.ok []) eDk0 := fun _ _ => rfl
theorem er_get2 {A : List (Int × α)} {a : Int} {b : α} (hx : ER m L k1 (eDk ea) (.ok A) f) (hy : ER m L k2 eI (.ok a) g) (hz : ER m L .sh ea (.ok b) h) : ER m L .sh ea (.ok ((alook A a).getD b)) (eGet2 f g h) := fun Γ hΓ => by
  have h1 : f Γ = .ok _ := hx Γ hΓ
  have h2 : g Γ = .ok _ := hy Γ hΓ
  have h3 : h Γ = .ok _ := hz Γ hΓ
  show eGet2 f g h Γ = _
  unfold eGet2
  simp only [h1, Re.bind_ok, Kd.v_d, D.isD, if_true, h2, h3]
  unfold kGet2
  rw [Kd.v_d, Kd.v_d]
  dsimp only [dlook, D.key?, Option.map_some]
  rw [kget_map (ea := ea) inl_inj A a]
  cases alook A a <;> rfl
theorem er_disp2 {a b : Int} {u v : α} (ha : ER m L k1 eI (.ok a) f) (hu : ER m L k2 ea (.ok u) g) (hk2 : k2.ok = true) (hb : ER m L k3 eI (.ok b) f4) (hv : ER m L k4 ea (.ok v) f5) (hk4 : k4.ok = true) : ER m L .fr (eDk ea) (.ok (aput (aput [] a u) b v)) (eDisp [(f, g), (f4, f5)]) := fun Γ hΓ => by
  have h1 : f Γ = .ok _ := ha Γ hΓ
  have h2 : g Γ = .ok _ := hu Γ hΓ
  have h3 : f4 Γ = .ok _ := hb Γ hΓ
  have h4 : f5 Γ = .ok _ := hv Γ hΓ
  show eDisp _ Γ = _
  have e1 : dPairs [(f, g), (f4, f5)] Γ = .ok [((.inl a : Key), ea u), ((.inl b : Key), ea v)] := by
    unfold dPairs
    dsimp only
    rw [h1, Re.bind_ok, Kd.v_d]
    dsimp only [D.key?]
    rw [h2, Re.bind_ok, Kd.share hk2, Re.bind_ok]
    unfold dPairs
    dsimp only
    rw [h3, Re.bind_ok, Kd.v_d]
    dsimp only [D.key?]
    rw [h4, Re.bind_ok, Kd.share hk4, Re.bind_ok]
    rfl
  unfold eDisp
  rw [e1, Re.bind_ok]
  have q1 := kput_map (ea := ea) inl_inj ([] : List (Int × α)) a u
  have q2 := kput_map (ea := ea) inl_inj (aput ([] : List (Int × α)) a u) b v
  simp only [List.map_nil] at q1
  have q3 : mergeD (([] : List Key), ([] : List D)) [((.inl a : Key), ea u), ((.inl b : Key), ea v)] = ((aput (aput [] a u) b v).map fun p => (.inl p.1 : Key), (aput (aput [] a u) b v).map fun p => ea p.2) := by
    show kput (kput ([] : List Key) [] (.inl a) (ea u)).1 (kput ([] : List Key) [] (.inl a) (ea u)).2 (.inl b) (ea v) = _
    rw [q1]
    exact q2
  rw [q3]
  rfl
theorem er_inW {neg : Bool} {tbl : List (Str × Int)} {x : Re Str} (hx : ER m L k1 eS x f) : ER m L .sh eB (x.bind fun w => .ok (if neg then !(tlook tbl w).isSome else (tlook tbl w).isSome)) (eInW neg tbl f) := fun Γ hΓ => by
  have h1 := hx Γ hΓ
  unfold eInW
  cases x with
  | ok a => have h1 : f Γ = .ok _ := h1; simp only [h1, Re.bind_ok, Kd.v_d]; rfl
  | ex z => have h1 : f Γ = .ex z := h1; rw [h1]; rfl
  | bad => trivial
def tgetT (tbl : List (Str × Int)) (w : Str) : Re Int := match tlook tbl w with
  | some i => .ok i | none => .bad
theorem er_getW {tbl : List (Str × Int)} {x : Re Str} (hx : ER m L k1 eS x f) : ER m L .sh eI (x.bind fun w => tgetT tbl w) (eGetW tbl f) := fun Γ hΓ => by
  have h1 := hx Γ hΓ
  unfold eGetW
  cases x with
  | ok a =>
    have h1 : f Γ = .ok _ := h1
    simp only [h1, Re.bind_ok, Kd.v_d]
    show RE1 .sh eI (tgetT tbl a) _
    unfold tgetT
    cases tlook tbl a <;> first | rfl | trivial
  | ex z => have h1 : f Γ = .ex z := h1; rw [h1]; rfl
  | bad => trivial
theorem ir_a {x : Re (List τ)} (hk : k1.ok = true) (hx : ER m L k1 (eL e) x f) : IR m L e x (itA f) := fun Γ hΓ => by
  have h1 := hx Γ hΓ
  rw [itA_at]
  cases x with
  | ok a => have h1 : f Γ = .ok _ := h1; rw [h1, Re.bind_ok]; cases k1 <;> first | rfl | cases hk
  | ex z => have h1 : f Γ = .ex z := h1; rw [h1]; rfl
  | bad => trivial
theorem ir_t {x : Re (List τ)} (hx : ER m L .sh (eTu e) x f) : IR m L e x (itA f) := fun Γ hΓ => by
  have h1 := hx Γ hΓ
  rw [itA_at]
  cases x with
  | ok a => have h1 : f Γ = .ok _ := h1; rw [h1, Re.bind_ok]; rfl
  | ex z => have h1 : f Γ = .ex z := h1; rw [h1]; rfl
  | bad => trivial
@[irreducible] def rngT (a b : Int) : Re (List Int) := if rgb a b = true then .ok (rangeI a b) else .bad
theorem rngT_ok {a b : Int} (h : rgb a b = true) : rngT a b = .ok (rangeI a b) := by unfold rngT; exact if_pos h
theorem itR_map (a b : Int) : RI1 eI (rngT a b) (itR a b) := by
  unfold rngT itR
  split
  · show _ = Re.ok _; rw [rgD_map]
  · trivial
theorem ir_r1 {x : Re Int} (hx : ER m L .sh eI x f) : IR m L eI (x.bind fun a => rngT 0 a) (itR1 f) := fun Γ hΓ => by
  have h1 := hx Γ hΓ
  rw [itR1_at]
  cases x with
  | ok a => have h1 : f Γ = .ok _ := h1; rw [h1, Re.bind_ok]; exact itR_map 0 a
  | ex z => have h1 : f Γ = .ex z := h1; rw [h1]; rfl
  | bad => trivial
theorem ir_r2 {x y : Re Int} (hx : ER m L .sh eI x f) (hy : ER m L .sh eI y g) : IR m L eI (x.bind fun a => y.bind fun b => rngT a b) (itR2 f g) := fun Γ hΓ => by
  have h1 := hx Γ hΓ
  have h2 := hy Γ hΓ
  rw [itR2_at]
  cases x with
  | ok a =>
    have h1 : f Γ = .ok _ := h1
    rw [h1, Re.bind_ok]
    cases y with
    | ok b => have h2 : g Γ = .ok _ := h2; rw [h2, Re.bind_ok]; exact itR_map a b
    | ex z => have h2 : g Γ = .ex z := h2; rw [h2]; rfl
    | bad => trivial
  | ex z => have h1 : f Γ = .ex z := h1; rw [h1]; rfl
  | bad => trivial
@[irreducible] def rng3T (a b c : Int) : Re (List Int) := if c ≠ 0 ∧ c.natAbs < 1073741824 ∧ Builtin.Range.small a b c = true then .ok ((List.range (Builtin.Range.rangeSize a b c).toNat).map fun i => a + (i : Nat) * c) else .bad
theorem ir_r3 {x y z : Re Int} (hx : ER m L .sh eI x f) (hy : ER m L .sh eI y g) (hz : ER m L .sh eI z h) : IR m L eI (x.bind fun a => y.bind fun b => z.bind fun c => rng3T a b c) (itR3 f g h) := fun Γ hΓ => by
  have h1 := hx Γ hΓ
  have h2 := hy Γ hΓ
  have h3 := hz Γ hΓ
  unfold itR3
  cases x with
  | ok a =>
    have h1 : f Γ = .ok _ := h1
    rw [h1, Re.bind_ok]
    cases y with
    | ok b =>
      have h2 : g Γ = .ok _ := h2
      rw [h2, Re.bind_ok]
      cases z with
      | ok c =>
        have h3 : h Γ = .ok _ := h3
        rw [h3, Re.bind_ok]
        show RI1 eI (rng3T a b c) (if _ then _ else _)
        unfold rng3T
        split
        · show Re.ok (rg3 a c _) = .ok _
          unfold rg3
          rw [List.map_map]; rfl
        · trivial
      | ex z => have h3 : h Γ = .ex z := h3; rw [h3]; rfl
      | bad => trivial
    | ex z => have h2 : g Γ = .ex z := h2; rw [h2]; rfl
    | bad => trivial
  | ex z => have h1 : f Γ = .ex z := h1; rw [h1]; rfl
  | bad => trivial
def enumI (xs : List α) : List (Int × α) := (List.range xs.length).zipWith (fun (k : Nat) a => ((k : Int), a)) xs
theorem ir_en {x : Re (List τ)} (hk : k1.ok = true) (hx : ER m L k1 (eL e) x f) : IR m L (eP2 eI e) (x.bind fun xs => .ok (enumI xs)) (itE f) := fun Γ hΓ => by
  have h1 := hx Γ hΓ
  unfold itE
  cases x with
  | ok a =>
    have h1 : f Γ = .ok _ := h1
    simp only [h1, Re.bind_ok, Kd.share hk]
    show Re.ok (enumD (a.map e)) = Re.ok ((enumI a).map _)
    congr 1
    unfold enumD enumI
    rw [List.length_map, List.map_zipWith, List.zipWith_map_right]
  | ex z => have h1 : f Γ = .ex z := h1; rw [h1]; rfl
  | bad => trivial
def signsT (x : Str) : List Str := x.cps.toList.map fun k => ⟨#[k]⟩
theorem ir_s {x : Re Str} (hx : ER m L .sh eS x f) : IR m L eS (x.bind fun a => .ok (signsT a)) (itA f) := fun Γ hΓ => by
  have h1 := hx Γ hΓ
  rw [itA_at]
  cases x with
  | ok a =>
    have h1 : f Γ = .ok _ := h1; rw [h1, Re.bind_ok]
    show Re.ok (signs a) = Re.ok ((signsT a).map eS)
    unfold signs signsT
    rw [List.map_map]; rfl
  | ex z => have h1 : f Γ = .ex z := h1; rw [h1]; rfl
  | bad => trivial
def TgR (m : Nat) (e : τ → D) (t : Tg) (en : τ → Lk) : Prop := ∀ L (a : τ) Γ, Ag m L Γ → ∃ Γ1, t.set (e a) Γ = some Γ1 ∧ Ag m (en a ++ L) Γ1
theorem tg_1 {i : Nat} (hi : i < m) : TgR m e (.one i) fun a => [(i, .sh (e a))] := fun L a Γ hΓ => ⟨_, rfl, hΓ.set hi _⟩
theorem tg_2 {i j : Nat} (hi : i < m) (hj : j < m) : TgR m (eP2 ea eb) (.tup [i, j]) fun p => [(j, .sh (eb p.2)), (i, .sh (ea p.1))] := fun L a Γ hΓ => ⟨_, rfl, (hΓ.set hi _).set hj _⟩
theorem tg_3 {i j l : Nat} (hi : i < m) (hj : j < m) (hl : l < m) : TgR m (eP3 ea eb ec) (.tup [i, j, l]) fun p => [(l, .sh (ec p.2.2)), (j, .sh (eb p.2.1)), (i, .sh (ea p.1))] := fun L a Γ hΓ => ⟨_, rfl, ((hΓ.set hi _).set hj _).set hl _⟩
structure Agx (m : Nat) (own : List Nat) (L : Lk) (Γ : Env') : Prop where
  len : Γ.length = m
  at' : ∀ i r, i ∉ own → lk i L = some r → Γ[i]? = some (some r)
theorem Ag.wipe {Γ : Env'} (h : Ag m L Γ) : ∀ own : List Nat, Agx m own L (wipeG Γ own)
  | [] => ⟨h.len, fun i r _ e => h.at' i r e⟩
  | i :: own => by
    have ih := Ag.wipe h own
    refine ⟨by unfold wipeG; rw [List.length_set]; exact ih.len, fun j r hj e => ?_⟩
    unfold wipeG
    rw [List.getElem?_set_ne (fun z => hj (by rw [z]; exact List.mem_cons_self))]
    exact ih.at' j r (fun z => hj (List.mem_cons_of_mem _ z)) e
theorem Agx.set {i : Nat} {own : List Nat} {Γ : Env'} (h : Agx m (i :: own) L Γ) (hi : i < m) (r : Rv) : Agx m own ((i, r) :: L) (Γ.set i (some r)) := by
  refine ⟨by rw [List.length_set]; exact h.len, fun j s hj e => ?_⟩
  rw [lk_cons] at e
  by_cases hji : j = i
  · subst hji; rw [if_pos rfl] at e; cases e; exact List.getElem?_set_self (by rw [h.len]; exact hi)
  · rw [if_neg hji] at e
    rw [List.getElem?_set_ne (Ne.symm hji)]
    exact h.at' j s (by simp [hji, hj]) e
theorem Agx.ag {Γ : Env'} (h : Agx m [] L Γ) : Ag m L Γ := ⟨h.len, fun i r e => h.at' i r (by simp) e⟩
def TgC (m : Nat) (e : τ → D) (t : Tg) (own : List Nat) (en : τ → Lk) : Prop := ∀ L (a : τ) Γ, Ag m L Γ → ∃ Γ1, t.set (e a) (wipeG Γ own) = some Γ1 ∧ Ag m (en a ++ L) Γ1
theorem tc_1 {i : Nat} (hi : i < m) : TgC m e (.one i) [i] fun a => [(i, .sh (e a))] := fun L a Γ hΓ => ⟨_, rfl, ((hΓ.wipe [i]).set hi _).ag⟩
theorem tc_2 {i j : Nat} (hi : i < m) (hj : j < m) : TgC m (eP2 ea eb) (.tup [i, j]) [i, j] fun p => [(j, .sh (eb p.2)), (i, .sh (ea p.1))] := fun L a Γ hΓ => ⟨_, rfl, (((hΓ.wipe [i, j]).set hi _).set hj _).ag⟩
theorem tc_3 {i j l : Nat} (hi : i < m) (hj : j < m) (hl : l < m) : TgC m (eP3 ea eb ec) (.tup [i, j, l]) [i, j, l] fun p => [(l, .sh (ec p.2.2)), (j, .sh (eb p.2.1)), (i, .sh (ea p.1))] := fun L a Γ hΓ => ⟨_, rfl, ((((hΓ.wipe [i, j, l]).set hi _).set hj _).set hl _).ag⟩
def mapT (x : α → Re τ) : List α → Re (List τ)
  | [] => .ok []
  | a :: as => match x a with
    | .ok b => (match mapT x as with | .ok bs => .ok (b :: bs) | _ => .bad)
    | _ => .bad
def lcM (x : Re (List τ)) : Re (List τ) := match x with
  | .ok ys => lcP ys | _ => .bad
def filT (c : α → Re Bool) : List α → Re (List α)
  | [] => .ok []
  | a :: as => match c a with
    | .ok true => (match filT c as with | .ok bs => .ok (a :: bs) | _ => .bad)
    | .ok false => filT c as
    | _ => .bad
theorem lcL_t {t : Tg} {own : List Nat} {en : α → Lk} {x : α → Re τ} {fe : FE} {Γ : Env'} (hk : k.ok = true) (ht : TgC m ea t own en) (hΓ : Ag m L Γ) (hx : ∀ a, ER m (en a ++ L) k e (x a) fe) : ∀ (as : List α) (bs : List τ), mapT x as = .ok bs → lcL t tYesF fe (wipeG Γ own) (as.map ea) = .ok (bs.map e)
  | [], bs, h => by cases h; rfl
  | a :: as, bs, h => by
    unfold mapT at h
    obtain ⟨Γ1, h1, h2⟩ := ht L a Γ hΓ
    have h3 := hx a Γ1 h2
    cases ex : x a with
    | ok b =>
      rw [ex] at h h3
      dsimp only at h
      have h3 : fe Γ1 = .ok _ := h3
      cases em : mapT x as with
      | ok cs =>
        rw [em] at h
        cases h
        rw [List.map_cons, List.map_cons]
        unfold lcL
        rw [lcL_t hk ht hΓ hx as cs em]
        unfold lcStep
        rw [h1]
        simp [tYesF, h3, Kd.share hk, -Kd.v]
      | ex z => rw [em] at h; cases h
      | bad => rw [em] at h; cases h
    | ex z => rw [ex] at h; cases h
    | bad => rw [ex] at h; cases h
theorem lcL_ft {t : Tg} {own : List Nat} {en : α → Lk} {c : α → Re Bool} {x : α → Re τ} {fe : FE} {Γ : Env'} (hk : k.ok = true) (ht : TgC m ea t own en) (hΓ : Ag m L Γ) (hc : ∀ a, TR m (en a ++ L) (c a) ft) (hx : ∀ a, ER m (en a ++ L) k e (x a) fe) : ∀ (as as' : List α) (bs : List τ), filT c as = .ok as' → mapT x as' = .ok bs → lcL t ft fe (wipeG Γ own) (as.map ea) = .ok (bs.map e)
  | [], as', bs, h, h' => by cases h; cases h'; rfl
  | a :: as, as', bs, h, h' => by
    unfold filT at h
    obtain ⟨Γ1, h1, h2⟩ := ht L a Γ hΓ
    have h3 := hx a Γ1 h2
    have h4 := hc a Γ1 h2
    rw [List.map_cons]
    unfold lcL
    cases ec : c a with
    | ok b =>
      rw [ec] at h h4
      have h4 : ft Γ1 = .ok b := h4
      cases b with
      | false =>
        dsimp only at h
        rw [lcL_ft hk ht hΓ hc hx as as' bs h h']
        unfold lcStep
        rw [h1]
        simp [h4]
      | true =>
        dsimp only at h
        cases ef : filT c as with
        | ok cs =>
          rw [ef] at h
          cases h
          unfold mapT at h'
          cases ex : x a with
          | ok b =>
            rw [ex] at h' h3
            dsimp only at h'
            have h3 : fe Γ1 = .ok _ := h3
            cases em : mapT x cs with
            | ok ds =>
              rw [em] at h'
              cases h'
              rw [lcL_ft hk ht hΓ hc hx as cs ds ef em, List.map_cons]
              unfold lcStep
              rw [h1]
              simp [h4, h3, Kd.share hk, -Kd.v]
            | ex z => rw [em] at h'; cases h'
            | bad => rw [em] at h'; cases h'
          | ex z => rw [ex] at h'; cases h'
          | bad => rw [ex] at h'; cases h'
        | ex z => rw [ef] at h; cases h
        | bad => rw [ef] at h; cases h
    | ex z => rw [ec] at h; cases h
    | bad => rw [ec] at h; cases h
theorem mapT_p {p : α → τ} : ∀ as : List α, mapT (fun a => .ok (p a)) as = .ok (as.map p)
  | [] => rfl
  | a :: as => by unfold mapT; dsimp only; rw [mapT_p as]; rfl
theorem filT_p {p : α → Bool} : ∀ as : List α, filT (fun a => .ok (p a)) as = .ok (as.filter p)
  | [] => rfl
  | a :: as => by
    unfold filT
    rw [filT_p as, List.filter_cons]
    cases h : p a <;> rfl
theorem er_lc {t : Tg} {own : List Nat} {en : α → Lk} {y : Re (List α)} {x : α → Re τ} {fe : FE} (hi : IR m L ea y fi) (ht : TgC m ea t own en) (hk : k.ok = true) (hx : ∀ a, ER m (en a ++ L) k e (x a) fe) : ER m L .fr (eL e) (y.bind fun as => lcM (mapT x as)) (eLc fi t tYesF fe own) := fun Γ hΓ => by
  have h1 := hi Γ hΓ
  rw [eLc_at]
  cases y with
  | ok as =>
    have h1 : fi Γ = .ok _ := h1
    simp only [h1, Re.bind_ok]
    show RE1 .fr (eL e) (lcM (mapT x as)) _
    cases em : mapT x as with
    | ok bs =>
      rw [lcL_t hk ht hΓ hx as bs em]
      show RE1 .fr (eL e) (lcP bs) (lcRes (.ok (bs.map e)))
      unfold lcP lcRes
      by_cases hl : bs.length ≤ 16777216
      · rw [if_pos hl]; dsimp only; rw [if_pos (by simpa using hl)]; rfl
      · rw [if_neg hl]; trivial
    | ex z => trivial
    | bad => trivial
  | ex z => have h1 : fi Γ = .ex z := h1; rw [h1]; rfl
  | bad => trivial
theorem er_lcp {t : Tg} {own : List Nat} {en : α → Lk} {y : Re (List α)} {x : α → τ} {fe : FE} (hi : IR m L ea y fi) (ht : TgC m ea t own en) (hk : k.ok = true) (hx : ∀ a, ER m (en a ++ L) k e (.ok (x a)) fe) : ER m L .fr (eL e) (y.bind fun as => lcP (as.map x)) (eLc fi t tYesF fe own) := by
  have := er_lc hi ht hk hx
  simp only [mapT_p] at this
  exact this
theorem er_lf {t : Tg} {own : List Nat} {en : α → Lk} {y : Re (List α)} {c : α → Re Bool} {x : α → Re τ} {fe : FE} (hi : IR m L ea y fi) (ht : TgC m ea t own en) (hk : k.ok = true) (hc : ∀ a, TR m (en a ++ L) (c a) ft) (hx : ∀ a, ER m (en a ++ L) k e (x a) fe) :
    ER m L .fr (eL e) (y.bind fun as => match filT c as with | .ok as' => lcM (mapT x as') | _ => .bad) (eLc fi t ft fe own) := fun Γ hΓ => by
  have h1 := hi Γ hΓ
  rw [eLc_at]
  cases y with
  | ok as =>
    have h1 : fi Γ = .ok _ := h1
    simp only [h1, Re.bind_ok]
    show RE1 .fr (eL e) (match filT c as with | .ok as' => lcM (mapT x as') | _ => .bad) _
    cases ef : filT c as with
    | ok as' =>
      dsimp only
      cases em : mapT x as' with
      | ok bs =>
        rw [lcL_ft hk ht hΓ hc hx as as' bs ef em]
        show RE1 .fr (eL e) (lcP bs) (lcRes (.ok (bs.map e)))
        unfold lcP lcRes
        by_cases hl : bs.length ≤ 16777216
        · rw [if_pos hl]; dsimp only; rw [if_pos (by simpa using hl)]; rfl
        · rw [if_neg hl]; trivial
      | ex z => trivial
      | bad => trivial
    | ex z => trivial
    | bad => trivial
  | ex z => have h1 : fi Γ = .ex z := h1; rw [h1]; rfl
  | bad => trivial
theorem er_lfp {t : Tg} {own : List Nat} {en : α → Lk} {y : Re (List α)} {c : α → Bool} {x : α → τ} {fe : FE} (hi : IR m L ea y fi) (ht : TgC m ea t own en) (hk : k.ok = true) (hc : ∀ a, TR m (en a ++ L) (.ok (c a)) ft) (hx : ∀ a, ER m (en a ++ L) k e (.ok (x a)) fe) :
    ER m L .fr (eL e) (y.bind fun as => lcP ((as.filter c).map x)) (eLc fi t ft fe own) := by
  have := er_lf hi ht hk hc hx
  simp only [mapT_p, filT_p] at this
  exact this
theorem call_out {F : List D → Re Rv} {ds : List D} {z : Re τ} {n : Nat} (hn : ds.length = n) (hk : k.ok = true) (hF : RE1 k e z (F ds)) : RE1 k e z (if ds.length = n then (match F ds with | .ok (.bo _) => .bad | r => r) else .bad) := by
  rw [if_pos hn]
  cases z with
  | ok a => have hF : F ds = .ok _ := hF; show _ = _; rw [hF]; cases k <;> first | rfl | cases hk
  | ex w => have hF : F ds = .ex w := hF; show _ = _; rw [hF]
  | bad => trivial
def AR (m : Nat) (L : Lk) (ds : List D) (fa : FA) : Prop := ∀ Γ, Ag m L Γ → fa Γ = .ok ds
theorem ar_n : AR m L [] aNil := fun _ _ => rfl
theorem ar_c {a : α} {ds : List D} (hk : k1.ok = true) (hx : ER m L k1 ea (.ok a) f) (hy : AR m L ds fa) : AR m L (ea a :: ds) (aCons f fa) := fun Γ hΓ => by
  have h1 : f Γ = .ok _ := hx Γ hΓ
  rw [aCons_at, h1, Re.bind_ok, Kd.share hk, Re.bind_ok, hy Γ hΓ]
  rfl
theorem er_callp {n : Nat} {F : List D → Re Rv} {ds : List D} {z : Re τ} (ha : AR m L ds fa) (hn : ds.length = n) (hk : k.ok = true) (hF : RE1 k e z (F ds)) : ER m L k e z (eCall n F fa) := fun Γ hΓ => by
  rw [eCall_at, ha Γ hΓ, Re.bind_ok]
  exact call_out hn hk hF
def CR' (m : Nat) (L : Lk) (k : Kd) (e : τ → D) (z : Re τ) (fa : FA) (R : List D → Re Rv) : Prop := ∀ Γ, Ag m L Γ → RE1 k e z ((fa Γ).bind R)
theorem cr_n {z : Re τ} {R : List D → Re Rv} (h : RE1 k e z (R [])) : CR' m L k e z aNil R := fun Γ _ => h
theorem cr_c {x : Re α} {t : α → Re τ} {R : List D → Re Rv} (hk : k1.ok = true) (hx : ER m L k1 ea x f) (hr : ∀ a, CR' m L k e (t a) fa fun ds => R (ea a :: ds)) : CR' m L k e (x.bind t) (aCons f fa) R := fun Γ hΓ => by
  have h1 := hx Γ hΓ
  rw [aCons_at]
  cases x with
  | ok a =>
    have h1 : f Γ = .ok _ := h1
    have h2 := hr a Γ hΓ
    simp only [h1, Re.bind_ok, Kd.share hk]
    show RE1 k e (t a) _
    cases ef : fa Γ with
    | ok ds => rw [ef] at h2; exact h2
    | ex z => rw [ef] at h2; exact h2
    | bad => rw [ef] at h2; exact h2
  | ex z => have h1 : f Γ = .ex z := h1; rw [h1]; rfl
  | bad => trivial
theorem er_call {n : Nat} {F : List D → Re Rv} {z : Re τ} (h : CR' m L k e z fa fun ds => if ds.length = n then (match F ds with | .ok (.bo _) => .bad | r => r) else .bad) : ER m L k e z (eCall n F fa) := h
theorem er_callK {n j nn : Nat} {l : List Src} {dds : List D} {F : List D → Re Rv} {ds zs es : List D} {z : Re τ} (ha : AR m L ds fa) (hk : AR m L zs fb) (hn : ds.length = n ∧ zs.length = j ∧ es.length = nn) (hg : gp l ds dds zs = es) (hkk : k.ok = true) (hF : RE1 k e z (F es)) : ER m L k e z (eCallK n j l dds nn F fa fb) := fun Γ hΓ => by
  unfold eCallK
  rw [ha Γ hΓ, Re.bind_ok, hk Γ hΓ, Re.bind_ok, hg]
  rw [if_pos hn]
  cases z with
  | ok a => have hF : F es = .ok _ := hF; show _ = _; rw [hF]; cases k <;> first | rfl | cases hkk
  | ex w => have hF : F es = .ex w := hF; show _ = _; rw [hF]
  | bad => trivial
def nxT {α : Type} (x : Re α) : Re α := match x with
  | .ok a => .ok a | _ => .bad
theorem er_fz {i : Nat} {x : Re Bool} (hx : ER m (frzL i L) .sh eB x f) : ER m L .sh eB (nxT x) (eFz i f) := fun Γ hΓ => by
  have h1 := hx _ (hΓ.frz i)
  cases x with
  | ok a =>
    have h1 : f (frz i Γ) = .ok (.sh (.b a)) := h1
    show eFz i f Γ = _
    unfold eFz
    rw [h1]
    rfl
  | ex z => trivial
  | bad => trivial
end
end Ly
end

section
set_option maxRecDepth 100000
namespace Ly
open PySem PySem.Spec L2
open PyProof.Rows hiding St
inductive Ct (S ρ : Type) where
  | nx (s : S) | rt (r : ρ)
def ctK {S ρ β : Type} (K : S → Re β) (j : ρ → Re β) : Ct S ρ → Re β
  | .nx s => K s | .rt r => j r
@[simp] theorem ctK_nx {S ρ β : Type} {K : S → Re β} {j : ρ → Re β} {s : S} : ctK K j (.nx s) = K s := rfl
@[simp] theorem ctK_rt {S ρ β : Type} {K : S → Re β} {j : ρ → Re β} {r : ρ} : ctK K j (.rt r) = j r := rfl
def RS {α : Type} (P : α → Fl → Prop) (T : Re α) (fl : Fl) : Prop := match T with
  | .ok a => P a fl | .ex z => ∃ Γ', fl = .ex z Γ' | .bad => True
def BG {α : Type} (m : Nat) (L : Lk) (P : α → Fl → Prop) (T : Re α) (u : FS) : Prop := ∀ Γ, Ag m L Γ → RS P T (u Γ)
section
variable {m : Nat} {L : Lk} {k k1 k2 k3 k4 k5 : Kd} {α β γ δ ε τ ω S : Type} {e : τ → D} {ea : α → D} {eb : β → D} {ec : γ → D} {f g h f4 f5 : FE} {ft gt : FT} {fa fb : FA} {fi : FI} {u v w : FS} {P : ω → Fl → Prop} {i j : Nat}
def PN (m : Nat) (Lo : S → Lk) : S → Fl → Prop := fun s fl => ∃ Γ', fl = .nx Γ' ∧ Ag m (Lo s) Γ'
def PT (k : Kd) (e : τ → D) : τ → Fl → Prop := fun r fl => fl = .rt (k.v (e r))
def P0 : Unit → Fl → Prop := fun _ fl => (∃ Γ', fl = .nx Γ') ∨ fl = .rt (.sh .n)
def PC (m : Nat) (Lo : S → Lk) (k : Kd) (e : τ → D) : Ct S τ → Fl → Prop
  | .nx s, fl => ∃ Γ', fl = .nx Γ' ∧ Ag m (Lo s) Γ'
  | .rt r, fl => fl = .rt (k.v (e r))
theorem bg_bad : BG m L P .bad u := fun _ _ => trivial
theorem bg_sub {L' : Lk} {T : Re ω} (hs : subL L' L) (h : BG m L' P T u) : BG m L P T u := fun Γ hΓ => h Γ (hΓ.sub hs)
theorem bg_last {T : Re ω} (h : BG m L P T (sSeq u sNil)) : BG m L P T u := fun Γ hΓ => by
  have h1 := h Γ hΓ
  have e : sSeq u sNil Γ = u Γ := by
    unfold sSeq sNil
    cases u Γ <;> rfl
  rw [e] at h1
  exact h1
theorem bg_assoc {T : Re ω} (h : BG m L P T (sSeq u (sSeq v w))) : BG m L P T (sSeq (sSeq u v) w) := fun Γ hΓ => by
  have h1 := h Γ hΓ
  have e : sSeq (sSeq u v) w Γ = sSeq u (sSeq v w) Γ := by
    unfold sSeq
    cases u Γ <;> rfl
  rw [e]
  exact h1
theorem bg_nil {T : Re ω} (h : BG m L P T w) : BG m L P T (sSeq sNil w) := h
theorem bg_frz {T : Re ω} (h : BG m (frzL i L) P T u) : BG m L P T (sFrz i u) := fun Γ hΓ => h _ (hΓ.frz i)
theorem bg_frzS {T : Re ω} (h : BG m (frzL i L) P T (sSeq u w)) : BG m L P T (sSeq (sFrz i u) w) := fun Γ hΓ => h _ (hΓ.frz i)
theorem bg_step {x : Re α} {K : α → Re ω} {F : Rv → Env' → Fl} (hx : ER m L k ea x f) (hu : ∀ Γ, u Γ = (f Γ).fl Γ fun r => F r Γ) (h : ∀ a Γ, Ag m L Γ → RS P (K a) (match F (k.v (ea a)) Γ with | .nx Γ' => w Γ' | o => o)) : BG m L P (x.bind K) (sSeq u w) := fun Γ hΓ => by
  have h1 := hx Γ hΓ
  unfold sSeq
  rw [hu]
  cases x with
  | ok a => have h1 : f Γ = .ok _ := h1; rw [h1]; exact h a Γ hΓ
  | ex z => have h1 : f Γ = .ex z := h1; rw [h1]; exact ⟨Γ, rfl⟩
  | bad => trivial
theorem bg_set {x : Re α} {K : α → Re ω} (hi : i < m) (hk : k.ok = true) (hx : ER m L k ea x f) (h : ∀ a, BG m ((i, k.v (ea a)) :: L) P (K a) w) : BG m L P (x.bind K) (sSeq (sSet i f) w) :=
  bg_step (F := fun r Γ => setR i Γ r) hx (fun Γ => rfl) fun a Γ hΓ => by
    have e : setR i Γ (k.v (ea a)) = .nx (Γ.set i (some (k.v (ea a)))) := by cases k <;> first | rfl | cases hk
    rw [e]
    exact h a _ (hΓ.set hi _)
theorem bg_ex {x : Re α} {K : α → Re ω} (hx : ER m L k ea x f) (h : ∀ a, BG m L P (K a) w) : BG m L P (x.bind K) (sSeq (sEx f) w) :=
  bg_step (F := fun r Γ => .nx Γ) hx (fun Γ => rfl) fun a Γ hΓ => h a Γ hΓ
theorem bg_ret {x : Re τ} {K : τ → Re ω} (hx : ER m L k e x f) (h : ∀ a, ∃ b, K a = .ok b ∧ P b (.rt (match k with | .sh => Rv.sh (e a) | _ => .fr (e a)))) : BG m L P (x.bind K) (sSeq (sRet f) w) :=
  bg_step (F := fun r Γ => match r with | .bo d => .rt (.fr d) | r => .rt r) hx (fun Γ => rfl) fun a Γ hΓ => by
    obtain ⟨b, e1, h1⟩ := h a
    rw [e1]
    show P b _
    cases k <;> exact h1
theorem bg_retN {b : ω} (h : P b (.rt (.sh .n))) : BG m L P (.ok b) (sSeq sRetN w) := fun Γ hΓ => h
theorem bg_raise {x : Str} : BG m L P (.ex ⟨x, none⟩) (sSeq (sRaise x) w) := fun Γ hΓ => ⟨Γ, rfl⟩
theorem bg_end {Lo : S → Lk} {s : S} (hs : subL (Lo s) L) : BG m L (PN m Lo) (.ok s) sNil := fun Γ hΓ => ⟨Γ, rfl, hΓ.sub hs⟩
theorem bg_endC {Lo : S → Lk} {s : S} (hs : subL (Lo s) L) : BG m L (PC m Lo k e) (.ok (.nx s)) sNil := fun Γ hΓ => ⟨Γ, rfl, hΓ.sub hs⟩
theorem bg_end0 : BG m L P0 (.ok ()) sNil := fun Γ hΓ => .inl ⟨Γ, rfl⟩
theorem bg_test {x : Re Bool} {A B : Re ω} (hx : TR m L x ft) (ha : ∀ Γ, Ag m L Γ → RS P A (sSeq u w Γ)) (hb : ∀ Γ, Ag m L Γ → RS P B (sSeq v w Γ)) : BG m L P (x.bind fun b => if b = true then A else B) (sSeq (sIf ft u v) w) := fun Γ hΓ => by
  have h1 := hx Γ hΓ
  have e : sSeq (sIf ft u v) w Γ = match (ft Γ).fl Γ (fun b => if b = true then u Γ else v Γ) with | .nx Γ' => w Γ' | o => o := rfl
  rw [e]
  cases x with
  | ok a =>
    have h1 : ft Γ = .ok a := h1
    rw [h1, fl_ok]
    show RS P (if a = true then A else B) _
    cases a with
    | true => rw [if_pos rfl, if_pos rfl]; exact ha Γ hΓ
    | false => rw [if_neg Bool.false_ne_true, if_neg Bool.false_ne_true]; exact hb Γ hΓ
  | ex z => have h1 : ft Γ = .ex z := h1; rw [h1]; exact ⟨Γ, rfl⟩
  | bad => trivial
theorem bg_ifD {x : Re Bool} {A B : Re ω} (hx : TR m L x ft) (ha : BG m L P A (sSeq u w)) (hb : BG m L P B (sSeq v w)) : BG m L P (x.bind fun b => if b = true then A else B) (sSeq (sIf ft u v) w) := bg_test hx ha hb
theorem bg_seq {Lo : S → Lk} {A : Re S} {K : S → Re ω} (ha : BG m L (PN m Lo) A u) (h : ∀ s, BG m (Lo s) P (K s) w) : BG m L P (A.bind K) (sSeq u w) := fun Γ hΓ => by
  have h1 := ha Γ hΓ
  unfold sSeq
  cases A with
  | ok s =>
    obtain ⟨Γ', e, h2⟩ := h1
    rw [e]
    exact h s Γ' h2
  | ex z => obtain ⟨Γ', e⟩ := h1; rw [e]; exact ⟨Γ', rfl⟩
  | bad => trivial
theorem bg_seqC {Lo : S → Lk} {A : Re (Ct S τ)} {K : S → Re ω} {jn : τ → ω} (ha : BG m L (PC m Lo k e) A u) (hj : ∀ r, P (jn r) (.rt (k.v (e r)))) (h : ∀ s, BG m (Lo s) P (K s) w) : BG m L P (A.bind (ctK K fun r => .ok (jn r))) (sSeq u w) := fun Γ hΓ => by
  have h1 := ha Γ hΓ
  unfold sSeq
  cases A with
  | ok c =>
    cases c with
    | nx s =>
      obtain ⟨Γ', e, h2⟩ := h1
      rw [e]
      exact h s Γ' h2
    | rt r =>
      have h1 : u Γ = .rt _ := h1
      rw [h1]
      exact hj r
  | ex z => obtain ⟨Γ', e⟩ := h1; rw [e]; exact ⟨Γ', rfl⟩
  | bad => trivial
theorem bg_if {x : Re Bool} {A B : Re ω} (hx : TR m L x ft) (ha : BG m L P A u) (hb : BG m L P B v) : BG m L P (x.bind fun b => if b = true then A else B) (sIf ft u v) := fun Γ hΓ => by
  have h1 := hx Γ hΓ
  show RS P _ ((ft Γ).fl Γ (fun b => if b = true then u Γ else v Γ))
  cases x with
  | ok a =>
    have h1 : ft Γ = .ok a := h1
    rw [h1, fl_ok]
    show RS P (if a = true then A else B) _
    cases a with
    | true => rw [if_pos rfl, if_pos rfl]; exact ha Γ hΓ
    | false => rw [if_neg Bool.false_ne_true, if_neg Bool.false_ne_true]; exact hb Γ hΓ
  | ex z => have h1 : ft Γ = .ex z := h1; rw [h1]; exact ⟨Γ, rfl⟩
  | bad => trivial
def forT (B : S → α → Re S) : List α → S → Re S
  | [], s => .ok s
  | a :: as, s => (B s a).bind fun s' => forT B as s'
def forC (B : S → α → Re (Ct S τ)) : List α → S → Re (Ct S τ)
  | [], s => .ok (.nx s)
  | a :: as, s => (B s a).bind fun c => match c with | .nx s' => forC B as s' | .rt r => .ok (.rt r)
theorem forL_t {t : Tg} {en : α → Lk} {Lh : S → Lk} {B : S → α → Re S} (ht : TgR m ea t en) (hb : ∀ s a, BG m (en a ++ Lh s) (PN m Lh) (B s a) u) : ∀ (as : List α) (s : S) (Γ : Env'), Ag m (Lh s) Γ → RS (PN m Lh) (forT B as s) (forL t u (as.map ea) Γ)
  | [], s, Γ, hΓ => ⟨Γ, rfl, hΓ⟩
  | a :: as, s, Γ, hΓ => by
    obtain ⟨Γ1, h1, h2⟩ := ht _ a Γ hΓ
    have h3 := hb s a Γ1 h2
    rw [List.map_cons]
    unfold forL forT
    rw [h1]
    dsimp only
    cases eB : B s a with
    | ok s' =>
      rw [eB] at h3
      obtain ⟨Γ', h4, h5⟩ := h3
      rw [h4]
      exact forL_t ht hb as s' Γ' h5
    | ex z => rw [eB] at h3; obtain ⟨Γ', h4⟩ := h3; rw [h4]; exact ⟨Γ', rfl⟩
    | bad => trivial
theorem bg_for {t : Tg} {en : α → Lk} {Lh : S → Lk} {B : S → α → Re S} {x : Re (List α)} {s0 : S} {K : S → Re ω} (hi : IR m L ea x fi) (ht : TgR m ea t en) (hs : subL (Lh s0) L) (hb : ∀ s a, BG m (en a ++ Lh s) (PN m Lh) (B s a) u) (h : ∀ s, BG m (Lh s) P (K s) w) :
    BG m L P (x.bind fun as => (forT B as s0).bind K) (sSeq (sFor fi t u) w) := fun Γ hΓ => by
  have h1 := hi Γ hΓ
  have e : sSeq (sFor fi t u) w Γ = match (fi Γ).fl Γ (fun ds => forL t u ds Γ) with | .nx Γ' => w Γ' | o => o := rfl
  rw [e]
  cases x with
  | ok as =>
    have h1 : fi Γ = .ok _ := h1
    rw [h1, fl_ok]
    have h2 := forL_t ht hb as s0 Γ (hΓ.sub hs)
    show RS P ((forT B as s0).bind K) _
    cases eF : forT B as s0 with
    | ok s =>
      rw [eF] at h2
      obtain ⟨Γ', h3, h4⟩ := h2
      rw [h3]
      exact h s Γ' h4
    | ex z => rw [eF] at h2; obtain ⟨Γ', h3⟩ := h2; rw [h3]; exact ⟨Γ', rfl⟩
    | bad => trivial
  | ex z => have h1 : fi Γ = .ex z := h1; rw [h1]; exact ⟨Γ, rfl⟩
  | bad => trivial
theorem forL_c {t : Tg} {en : α → Lk} {Lh : S → Lk} {B : S → α → Re (Ct S τ)} (ht : TgR m ea t en) (hb : ∀ s a, BG m (en a ++ Lh s) (PC m Lh k e) (B s a) u) : ∀ (as : List α) (s : S) (Γ : Env'), Ag m (Lh s) Γ → RS (PC m Lh k e) (forC B as s) (forL t u (as.map ea) Γ)
  | [], s, Γ, hΓ => ⟨Γ, rfl, hΓ⟩
  | a :: as, s, Γ, hΓ => by
    obtain ⟨Γ1, h1, h2⟩ := ht _ a Γ hΓ
    have h3 := hb s a Γ1 h2
    rw [List.map_cons]
    unfold forL forC
    rw [h1]
    dsimp only
    cases eB : B s a with
    | ok c =>
      rw [eB] at h3
      cases c with
      | nx s' =>
        obtain ⟨Γ', h4, h5⟩ := h3
        rw [h4]
        exact forL_c ht hb as s' Γ' h5
      | rt r =>
        have h3 : u Γ1 = .rt _ := h3
        rw [h3]
        exact rfl
    | ex z => rw [eB] at h3; obtain ⟨Γ', h4⟩ := h3; rw [h4]; exact ⟨Γ', rfl⟩
    | bad => trivial
theorem bg_forC {t : Tg} {en : α → Lk} {Lh : S → Lk} {B : S → α → Re (Ct S τ)} {x : Re (List α)} {s0 : S} {K : S → Re ω} {jn : τ → ω} (hi : IR m L ea x fi) (ht : TgR m ea t en) (hs : subL (Lh s0) L) (hb : ∀ s a, BG m (en a ++ Lh s) (PC m Lh k e) (B s a) u) (hj : ∀ r, P (jn r) (.rt (k.v (e r)))) (h : ∀ s, BG m (Lh s) P (K s) w) :
    BG m L P (x.bind fun as => (forC B as s0).bind (ctK K fun r => .ok (jn r))) (sSeq (sFor fi t u) w) := fun Γ hΓ => by
  have h1 := hi Γ hΓ
  have e : sSeq (sFor fi t u) w Γ = match (fi Γ).fl Γ (fun ds => forL t u ds Γ) with | .nx Γ' => w Γ' | o => o := rfl
  rw [e]
  cases x with
  | ok as =>
    have h1 : fi Γ = .ok _ := h1
    rw [h1, fl_ok]
    have h2 := forL_c ht hb as s0 Γ (hΓ.sub hs)
    show RS P ((forC B as s0).bind _) _
    cases eF : forC B as s0 with
    | ok c =>
      rw [eF] at h2
      cases c with
      | nx s =>
        obtain ⟨Γ', h3, h4⟩ := h2
        rw [h3]
        exact h s Γ' h4
      | rt r =>
        have h2 : _ = Fl.rt _ := h2
        rw [h2]
        exact hj r
    | ex z => rw [eF] at h2; obtain ⟨Γ', h3⟩ := h2; rw [h3]; exact ⟨Γ', rfl⟩
    | bad => trivial
  | ex z => have h1 : fi Γ = .ex z := h1; rw [h1]; exact ⟨Γ, rfl⟩
  | bad => trivial
def whT (c : S → Re Bool) (B : S → Re S) : Nat → S → Re S
  | 0, _ => .bad
  | n + 1, s => (c s).bind fun b => if b = true then (B s).bind fun s' => whT c B n s' else .ok s
theorem whL_t {Lh : S → Lk} {c : S → Re Bool} {B : S → Re S} (hc : ∀ s, TR m (Lh s) (c s) ft) (hb : ∀ s, BG m (Lh s) (PN m Lh) (B s) u) : ∀ (n : Nat) (s : S) (Γ : Env'), Ag m (Lh s) Γ → RS (PN m Lh) (whT c B n s) (whL ft u n Γ)
  | 0, s, Γ, hΓ => trivial
  | n + 1, s, Γ, hΓ => by
    have h1 := hc s Γ hΓ
    unfold whL whT
    cases ec : c s with
    | ok b =>
      rw [ec] at h1
      have h1 : ft Γ = .ok b := h1
      rw [h1, fl_ok]
      show RS (PN m Lh) (if b = true then (B s).bind fun s' => whT c B n s' else .ok s) _
      cases b with
      | false => rw [if_neg Bool.false_ne_true, if_neg Bool.false_ne_true]; exact ⟨Γ, rfl, hΓ⟩
      | true =>
        rw [if_pos rfl, if_pos rfl]
        have h3 := hb s Γ hΓ
        cases eB : B s with
        | ok s' =>
          rw [eB] at h3
          obtain ⟨Γ', h4, h5⟩ := h3
          rw [h4]
          exact whL_t hc hb n s' Γ' h5
        | ex z => rw [eB] at h3; obtain ⟨Γ', h4⟩ := h3; rw [h4]; exact ⟨Γ', rfl⟩
        | bad => trivial
    | ex z => rw [ec] at h1; have h1 : ft Γ = .ex z := h1; rw [h1]; exact ⟨Γ, rfl⟩
    | bad => trivial
theorem bg_wh {n : Nat} {Lh : S → Lk} {c : S → Re Bool} {B : S → Re S} {s0 : S} {K : S → Re ω} (hs : subL (Lh s0) L) (hc : ∀ s, TR m (Lh s) (c s) ft) (hb : ∀ s, BG m (Lh s) (PN m Lh) (B s) u) (h : ∀ s, BG m (Lh s) P (K s) w) :
    BG m L P ((whT c B n s0).bind K) (sSeq (sWh n ft u) w) := fun Γ hΓ => by
  have h2 := whL_t hc hb n s0 Γ (hΓ.sub hs)
  have e : sSeq (sWh n ft u) w Γ = match whL ft u n Γ with | .nx Γ' => w Γ' | o => o := rfl
  rw [e]
  cases eF : whT c B n s0 with
  | ok s =>
    rw [eF] at h2
    obtain ⟨Γ', h3, h4⟩ := h2
    rw [h3]
    exact h s Γ' h4
  | ex z => rw [eF] at h2; obtain ⟨Γ', h3⟩ := h2; rw [h3]; exact ⟨Γ', rfl⟩
  | bad => trivial
theorem bg_par {x : Re α} {y : Re β} {K : α → β → Re ω} (hi : i < m) (hj : j < m) (hk1 : k1.ok = true) (hx : ER m L k1 ea x f) (hk2 : k2.ok = true) (hy : ER m L k2 eb y g) (h : ∀ a b, BG m ((j, .sh (eb b)) :: (i, .sh (ea a)) :: L) P (K a b) w) : BG m L P (x.bind fun a => y.bind fun b => K a b) (sSeq (sPar i j f g) w) := fun Γ hΓ => by
  have h1 := hx Γ hΓ
  have h2 := hy Γ hΓ
  unfold sSeq sPar
  cases x with
  | ok a =>
    have h1 : f Γ = .ok _ := h1
    simp only [h1, fl_ok, Kd.share hk1]
    cases y with
    | ok b => have h2 : g Γ = .ok _ := h2; simp only [h2, fl_ok, Kd.share hk2]; exact h a b _ ((hΓ.set hi _).set hj _)
    | ex z => have h2 : g Γ = .ex z := h2; simp only [h2]; exact ⟨Γ, rfl⟩
    | bad => trivial
  | ex z => have h1 : f Γ = .ex z := h1; simp only [h1]; exact ⟨Γ, rfl⟩
  | bad => trivial
theorem bg_asg {t : Tg} {en : α → Lk} {x : Re α} {K : α → Re ω} (ht : TgR m ea t en) (hx : ER m L .sh ea x f) (h : ∀ a, BG m (en a ++ L) P (K a) w) : BG m L P (x.bind K) (sSeq (sAsg t f) w) :=
  bg_step (F := fun r Γ => match r with | .sh d => (match t.set d Γ with | some Γ' => .nx Γ' | none => .bad) | _ => .bad) hx (fun Γ => rfl) fun a Γ hΓ => by
    obtain ⟨Γ1, h1, h2⟩ := ht L a Γ hΓ
    show RS P (K a) (match (match t.set (ea a) Γ with | some Γ' => Fl.nx Γ' | none => .bad) with | .nx Γ' => w Γ' | o => o)
    rw [h1]
    exact h a Γ1 h2
@[irreducible] def appT (xs : List α) (a : α) : Re (List α) := if xs.length < 16777216 then .ok (xs ++ [a]) else .bad
theorem appT_ok {xs : List α} {a : α} (h : xs.length < 16777216) : appT xs a = .ok (xs ++ [a]) := by unfold appT; exact if_pos h
theorem bg_app {xs : List τ} {x : Re τ} {K : List τ → Re ω} (hl : lk i L = some (.fr (eL e xs))) (hk : k.ok = true) (hx : ER m L k e x f) (h : ∀ ys, BG m ((i, .fr (eL e ys)) :: L) P (K ys) w) : BG m L P (x.bind fun a => (appT xs a).bind K) (sSeq (sApp i f) w) := fun Γ hΓ => by
  have h1 := hx Γ hΓ
  have h2 := hΓ.at' i _ hl
  have hi : i < m := by rw [← hΓ.len]; exact (List.getElem?_eq_some_iff.mp h2).1
  have e0 : sApp i f Γ = (f Γ).fl Γ fun r => (share r).fl Γ fun d => if (xs.map e).length < 16777216 then .nx (Γ.set i (some (.fr (.l (xs.map e ++ [d]))))) else .bad := by
    unfold sApp
    rw [h2]
  unfold sSeq
  rw [e0]
  cases x with
  | ok a =>
    have h1 : f Γ = .ok _ := h1
    rw [h1, fl_ok, Kd.share hk, fl_ok]
    show RS P ((appT xs a).bind K) _
    unfold appT
    by_cases hn : xs.length < 16777216
    · rw [if_pos hn, if_pos (by simpa using hn)]
      have := h (xs ++ [a]) _ (hΓ.set hi (.fr (eL e (xs ++ [a]))))
      have e1 : eL e (xs ++ [a]) = .l (xs.map e ++ [e a]) := by show D.l _ = _; rw [List.map_append]; rfl
      rw [e1] at this
      exact this
    · rw [if_neg hn]; trivial
  | ex z => have h1 : f Γ = .ex z := h1; rw [h1]; exact ⟨Γ, rfl⟩
  | bad => trivial
@[irreducible] def putT (xs : List α) (n : Int) (a : α) : Re (List α) := if xs.length < 16777216 ∧ 0 ≤ n ∧ n < 2 ^ 63 then .ok (xs.take n.toNat ++ [a] ++ xs.drop n.toNat) else .bad
theorem bg_ins {xs : List τ} {y : Re Int} {x : Re τ} {K : List τ → Re ω} (hl : lk i L = some (.fr (eL e xs))) (hy : ER m L k1 eI y f) (hk : k.ok = true) (hx : ER m L k e x g) (h : ∀ ys, BG m ((i, .fr (eL e ys)) :: L) P (K ys) w) : BG m L P (y.bind fun n => x.bind fun a => (putT xs n a).bind K) (sSeq (sIns i f g) w) := fun Γ hΓ => by
  have h1 := hy Γ hΓ
  have h3 := hx Γ hΓ
  have h2 := hΓ.at' i _ hl
  have hi : i < m := by rw [← hΓ.len]; exact (List.getElem?_eq_some_iff.mp h2).1
  have e0 : sIns i f g Γ = (f Γ).fl Γ fun r => match r.d with
    | .i k => (g Γ).fl Γ fun r => (share r).fl Γ fun d => if (xs.map e).length < 16777216 ∧ 0 ≤ k ∧ k < 2 ^ 63 then .nx (Γ.set i (some (.fr (.l ((xs.map e).take k.toNat ++ [d] ++ (xs.map e).drop k.toNat))))) else .bad
    | _ => .bad := by
    unfold sIns
    rw [h2]
    all_goals rfl
  unfold sSeq
  rw [e0]
  cases y with
  | ok n =>
    have h1 : f Γ = .ok _ := h1
    rw [h1, fl_ok, Kd.v_d]
    dsimp only
    cases x with
    | ok a =>
      have h3 : g Γ = .ok _ := h3
      rw [h3, fl_ok, Kd.share hk, fl_ok]
      show RS P ((putT xs n a).bind K) _
      unfold putT
      by_cases hn : xs.length < 16777216 ∧ 0 ≤ n ∧ n < 2 ^ 63
      · rw [if_pos hn, if_pos (by simpa using hn)]
        have := h (xs.take n.toNat ++ [a] ++ xs.drop n.toNat) _ (hΓ.set hi (.fr (eL e (xs.take n.toNat ++ [a] ++ xs.drop n.toNat))))
        have e1 : eL e (xs.take n.toNat ++ [a] ++ xs.drop n.toNat) = .l ((xs.map e).take n.toNat ++ [e a] ++ (xs.map e).drop n.toNat) := by show D.l _ = _; rw [List.map_append, List.map_append, List.map_take, List.map_drop]; rfl
        rw [e1] at this
        exact this
      · rw [if_neg hn]; trivial
    | ex z => have h3 : g Γ = .ex z := h3; rw [h3]; exact ⟨Γ, rfl⟩
    | bad => trivial
  | ex z => have h1 : f Γ = .ex z := h1; rw [h1]; exact ⟨Γ, rfl⟩
  | bad => trivial
def setT (xs : List α) (n : Int) (a : α) : Re (List α) := match ixN xs.length n with
  | some j => .ok (xs.set j a) | none => .bad
theorem gSub_ok {xs : List τ} {Γ : Env'} {n : Int} {a : τ} (h2 : Γ[i]? = some (some (.fr (eL e xs)))) (hf : f Γ = .ok (k.v (eI n))) : gSubL i f (e a) Γ = match setT xs n a with | .ok ys => .ok (Γ.set i (some (.fr (eL e ys)))) | _ => .bad := by
  unfold gSubL
  rw [h2]
  dsimp only
  rw [hf, Re.bind_ok, Kd.v_d]
  dsimp only
  unfold setT
  rw [List.length_map]
  cases ixN xs.length n with
  | none => rfl
  | some j => dsimp only; rw [← List.map_set]
theorem setT_len {xs ys : List τ} {n : Int} {a : τ} (h : setT xs n a = .ok ys) : ys.length = xs.length := by
  unfold setT at h
  split at h
  · cases h; exact List.length_set ..
  · cases h
theorem nxT_ex {α : Type} {x : Re α} {z : Exn} : nxT x ≠ .ex z := by unfold nxT; split <;> intro h <;> cases h
theorem bg_sub1 {xs : List τ} {x : Re τ} {y : Re Int} {K : List τ → Re ω} (hl : lk i L = some (.fr (eL e xs))) (hk : k.ok = true) (hx : ER m L k e x g) (hy : ER m L k1 eI y f) (h : ∀ ys, BG m ((i, .fr (eL e ys)) :: L) P (K ys) w) : BG m L P (x.bind fun a => (nxT y).bind fun n => (setT xs n a).bind K) (sSeq (sAsgT (gSubL i f) g) w) := fun Γ hΓ => by
  have h1 := hx Γ hΓ
  have h3 := hy Γ hΓ
  have h2 := hΓ.at' i _ hl
  have hi : i < m := by rw [← hΓ.len]; exact (List.getElem?_eq_some_iff.mp h2).1
  unfold sSeq sAsgT
  cases x with
  | ok a =>
    have h1 : g Γ = .ok _ := h1
    rw [h1, fl_ok, Kd.share hk, fl_ok]
    cases y with
    | ok n =>
      have h3 : f Γ = .ok _ := h3
      rw [gSub_ok h2 h3]
      show RS P ((setT xs n a).bind K) _
      cases es : setT xs n a with
      | ok ys => exact h ys _ (hΓ.set hi _)
      | ex z => unfold setT at es; split at es <;> cases es
      | bad => trivial
    | ex z => trivial
    | bad => trivial
  | ex z => have h1 : g Γ = .ex z := h1; rw [h1]; exact ⟨Γ, rfl⟩
  | bad => trivial
theorem bg_swap {xs : List τ} {x : Re (τ × τ)} {n l : Int} {K : List τ → Re ω} (hl : lk i L = some (.fr (eL e xs))) (hx : ER m L .sh (eP2 e e) x g) (hy : ER m L k1 eI (.ok n) f) (hz : ∀ ys, ER m ((i, .fr (eL e ys)) :: L) k2 eI (.ok l) h) (hr : ∀ ys, BG m ((i, .fr (eL e ys)) :: L) P (K ys) w) :
    BG m L P (x.bind fun p => (setT xs n p.1).bind fun ys => (setT ys l p.2).bind K) (sSeq (sAsgT (gTupL [gSubL i f, gSubL i h]) g) w) := fun Γ hΓ => by
  have h1 := hx Γ hΓ
  have h3 : f Γ = .ok _ := hy Γ hΓ
  have h2 := hΓ.at' i _ hl
  have hi : i < m := by rw [← hΓ.len]; exact (List.getElem?_eq_some_iff.mp h2).1
  unfold sSeq sAsgT
  cases x with
  | ok p =>
    have h1 : g Γ = .ok _ := h1
    rw [h1, fl_ok, Kd.share rfl, fl_ok]
    show RS P ((setT xs n p.1).bind fun ys => (setT ys l p.2).bind K) _
    have e1 : gTupL [gSubL i f, gSubL i h] (eP2 e e p) Γ = (gSubL i f (e p.1) Γ).bind fun Γ' => gAll [gSubL i h] [e p.2] Γ' := rfl
    rw [e1, gSub_ok h2 h3]
    cases es : setT xs n p.1 with
    | ok ys =>
      have hΓ2 := hΓ.set hi (.fr (eL e ys))
      have e2 := hz ys _ hΓ2
      have e2 : h (Γ.set i (some (.fr (eL e ys)))) = .ok _ := e2
      have h4 : (Γ.set i (some (.fr (eL e ys))))[i]? = some (some (.fr (eL e ys))) := List.getElem?_set_self (by rw [hΓ.len]; exact hi)
      show RS P ((setT ys l p.2).bind K) (match (match gAll [gSubL i h] [e p.2] (Γ.set i (some (.fr (eL e ys)))) with | .ok Γ' => Fl.nx Γ' | _ => .bad) with | .nx Γ' => w Γ' | o => o)
      have e3 : gAll [gSubL i h] [e p.2] (Γ.set i (some (.fr (eL e ys)))) = (gSubL i h (e p.2) (Γ.set i (some (.fr (eL e ys))))).bind fun Γ' => .ok Γ' := rfl
      rw [e3, gSub_ok h4 e2]
      cases et : setT ys l p.2 with
      | ok zs =>
        have := hr zs _ (hΓ.set hi (.fr (eL e zs)))
        show RS P (K zs) (w ((Γ.set i (some (.fr (eL e ys)))).set i (some (.fr (eL e zs)))))
        rw [List.set_set]
        exact this
      | ex z => unfold setT at et; split at et <;> cases et
      | bad => trivial
    | ex z => unfold setT at es; split at es <;> cases es
    | bad => trivial
  | ex z => have h1 : g Γ = .ex z := h1; rw [h1]; exact ⟨Γ, rfl⟩
  | bad => trivial
@[irreducible] def dputT (A : List (Int × α)) (n : Int) (v : α) : Re (List (Int × α)) := if A.length < 16777216 then .ok (aput A n v) else .bad
theorem dputT_ok {A : List (Int × α)} {n : Int} {v : α} (h : A.length < 16777216) : dputT A n v = .ok (aput A n v) := by unfold dputT; exact if_pos h
theorem bg_dput {A : List (Int × α)} {x : Re α} {y : Re Int} {K : List (Int × α) → Re ω} (hl : lk i L = some (.fr (eDk ea A))) (hk : k.ok = true) (hx : ER m L k ea x g) (hy : ER m L k1 eI y f) (h : ∀ B, BG m ((i, .fr (eDk ea B)) :: L) P (K B) w) : BG m L P (x.bind fun a => y.bind fun n => (dputT A n a).bind K) (sSeq (sDput i f g) w) := fun Γ hΓ => by
  have h1 := hx Γ hΓ
  have h3 := hy Γ hΓ
  have h2 := hΓ.at' i _ hl
  have hi : i < m := by rw [← hΓ.len]; exact (List.getElem?_eq_some_iff.mp h2).1
  have e0 : sDput i f g Γ = (g Γ).fl Γ fun r => (share r).fl Γ fun d => (f Γ).fl Γ fun k => (match dput (eDk ea A) k.d d with | some t' => .nx (Γ.set i (some (.fr t'))) | none => .bad) := by
    unfold sDput
    rw [h2]
    all_goals rfl
  unfold sSeq
  rw [e0]
  cases x with
  | ok a =>
    have h1 : g Γ = .ok _ := h1
    rw [h1, fl_ok, Kd.share hk, fl_ok]
    cases y with
    | ok n =>
      have h3 : f Γ = .ok _ := h3
      rw [h3, fl_ok, Kd.v_d]
      show RS P ((dputT A n a).bind K) _
      unfold dputT
      by_cases hn : A.length < 16777216
      · rw [if_pos hn]
        have e1 : dput (eDk ea A) (eI n) (ea a) = some (eDk ea (aput A n a)) := by
          show (if (A.map fun p => (.inl p.1 : Key)).length < 16777216 then ((eI n).key?).map fun k => D.dk (kput (A.map fun p => (.inl p.1 : Key)) (A.map fun p => ea p.2) k (ea a)).1 (kput (A.map fun p => (.inl p.1 : Key)) (A.map fun p => ea p.2) k (ea a)).2 else none) = _
          rw [if_pos (by simpa using hn)]
          dsimp only [D.key?, Option.map_some]
          rw [kput_map (ea := ea) inl_inj A n a]
        rw [e1]
        exact h _ _ (hΓ.set hi _)
      · rw [if_neg hn]; trivial
    | ex z => have h3 : f Γ = .ex z := h3; rw [h3]; exact ⟨Γ, rfl⟩
    | bad => trivial
  | ex z => have h1 : g Γ = .ex z := h1; rw [h1]; exact ⟨Γ, rfl⟩
  | bad => trivial
theorem bg_aug {o : Rv → Rv → Re Rv} {a : α} {y : Re β} {t : β → Re τ} {K : τ → Re ω} (hl : lk i L = some (.sh (ea a))) (hy : ER m L k2 eb y g) (ho : ∀ b, RE1 .sh e (t b) (o (.sh (ea a)) (k2.v (eb b)))) (h : ∀ c, BG m ((i, .sh (e c)) :: L) P (K c) w) : BG m L P (y.bind fun b => (t b).bind K) (sSeq (sAug i o g) w) := fun Γ hΓ => by
  have h3 := hy Γ hΓ
  have h2 := hΓ.at' i _ hl
  have hi : i < m := by rw [← hΓ.len]; exact (List.getElem?_eq_some_iff.mp h2).1
  have e0 : eV i Γ = .ok (.sh (ea a)) := by unfold eV; rw [h2]
  unfold sSeq sAug
  rw [e0, fl_ok]
  cases y with
  | ok b =>
    have h3 : g Γ = .ok _ := h3
    rw [h3, fl_ok]
    have h4 := ho b
    show RS P ((t b).bind K) _
    cases et : t b with
    | ok c => rw [et] at h4; have h4 : o _ _ = .ok _ := h4; rw [h4]; exact h c _ (hΓ.set hi _)
    | ex z => rw [et] at h4; have h4 : o _ _ = .ex z := h4; rw [h4]; exact ⟨Γ, rfl⟩
    | bad => trivial
  | ex z => have h3 : g Γ = .ex z := h3; rw [h3]; exact ⟨Γ, rfl⟩
  | bad => trivial
theorem o_aadd {a b : Int} : RE1 .sh eI (.ok (a + b)) (kAug_add (k1.v (eI a)) (k2.v (eI b))) := by cases k1 <;> cases k2 <;> rfl
theorem o_amul {a b : Int} : RE1 .sh eI (mulT a b) (kAug_mul (k1.v (eI a)) (k2.v (eI b))) := by
  have : kAug_mul (k1.v (eI a)) (k2.v (eI b)) = if (-(2 ^ 64) < a ∧ a < 2 ^ 64) ∨ (-(2 ^ 64) < b ∧ b < 2 ^ 64) then oki (a * b) else .bad := by cases k1 <;> cases k2 <;> rfl
  rw [this]
  unfold mulT
  split
  · rfl
  · trivial
theorem o_amod {a b : Int} : RE1 .sh eI (modT a b) (kAug_mod (k1.v (eI a)) (k2.v (eI b))) := by
  have : kAug_mod (k1.v (eI a)) (k2.v (eI b)) = if 0 < b then oki (a % b) else .bad := by cases k1 <;> cases k2 <;> rfl
  rw [this]
  unfold modT
  split
  · rfl
  · trivial
theorem o_adiv {a b : Int} : RE1 .sh eI (divT a b) (kAug_div (k1.v (eI a)) (k2.v (eI b))) := by
  have : kAug_div (k1.v (eI a)) (k2.v (eI b)) = if 0 < b ∧ b < 1073741824 then oki (a / b) else .bad := by cases k1 <;> cases k2 <;> rfl
  rw [this]
  unfold divT
  split
  · rfl
  · trivial
theorem fn_t {T : Re τ} {n mm : Nat} {b : FS} {ds : List D} (hn : ds.length = n) (hm : n ≤ mm) (hk : k.ok = true) (h : BG mm (argL 0 ds) (PT k e) T b) : RE1 k e T (runF n mm b ds) := by
  unfold runF
  rw [if_pos hn]
  have h1 := h _ (ag_start hn hm)
  cases T with
  | ok r =>
    have h1 : _ = Fl.rt _ := h1
    show _ = _
    rw [h1]
    cases k <;> first | rfl | cases hk
  | ex z => obtain ⟨Γ', h1⟩ := h1; show _ = _; rw [h1]
  | bad => trivial
theorem fn_t0 {T : Re Unit} {n mm : Nat} {b : FS} {ds : List D} (hn : ds.length = n) (hm : n ≤ mm) (h : BG mm (argL 0 ds) P0 T b) : RE1 .sh eU T (runF n mm b ds) := by
  unfold runF
  rw [if_pos hn]
  have h1 := h _ (ag_start hn hm)
  cases T with
  | ok r =>
    rcases h1 with ⟨Γ', h1⟩ | h1
    · show _ = _; rw [h1]; rfl
    · show _ = _; rw [h1]; rfl
  | ex z => obtain ⟨Γ', h1⟩ := h1; show _ = _; rw [h1]
  | bad => trivial
end
end Ly
end

section
set_option maxRecDepth 100000
namespace Ly
open PySem PySem.Spec L2
open PyProof.Rows hiding St
section
variable {m : Nat} {L : Lk} {k k1 k2 k3 k4 k5 : Kd} {α β γ δ ε τ ω S : Type} {e : τ → D} {ea : α → D} {eb : β → D} {ec : γ → D} {ed : δ → D} {f g h f4 f5 : FE} {ft gt : FT} {fa fb : FA} {fi : FI}
theorem er_chg {x : Re α} {y : Re β} {z : Re γ} {p : α → β → Bool} {q : β → γ → Bool} {o o' : Rv → Rv → Re Rv} (hx : ER m L k1 ea x f) (hy : ER m L k2 eb y g) (hz : ER m L k3 ec z h) (h1 : ∀ a b, RE1 .sh eB (.ok (p a b)) (o (k1.v (ea a)) (k2.v (eb b)))) (h2 : ∀ b c, RE1 .sh eB (.ok (q b c)) (o' (k2.v (eb b)) (k3.v (ec c)))) :
    ER m L .sh eB (x.bind fun a => y.bind fun b => if p a b = true then z.bind fun c => .ok (q b c) else .ok false) (eCh o o' f g h) := fun Γ hΓ => by
  have e1 := hx Γ hΓ
  have e2 := hy Γ hΓ
  have e3 := hz Γ hΓ
  unfold eCh
  cases x with
  | ok a =>
    have e1 : f Γ = .ok _ := e1
    simp only [e1, Re.bind_ok]
    cases y with
    | ok b =>
      have e2 : g Γ = .ok _ := e2
      have h1 : o _ _ = .ok (.sh (.b (p a b))) := h1 a b
      simp only [e2, Re.bind_ok, h1]
      cases hp : p a b with
      | true =>
        rw [if_pos rfl]
        cases z with
        | ok c => have e3 : h Γ = .ok _ := e3; have h2 : o' _ _ = .ok (.sh (.b (q b c))) := h2 b c; simp only [e3, Re.bind_ok, h2]; rfl
        | ex w => have e3 : h Γ = .ex w := e3; simp only [e3]; rfl
        | bad => trivial
      | false => rfl
    | ex w => have e2 : g Γ = .ex w := e2; simp only [e2]; rfl
    | bad => trivial
  | ex w => have e1 : f Γ = .ex w := e1; simp only [e1]; rfl
  | bad => trivial
theorem o_inF [DecidableEq α] (h : EqOk 11 ea) (h' : EqOk 12 ea) {a : α} {xs : List α} : RE1 .sh eB (.ok (decide (a ∈ xs))) (kIn false (k1.v (ea a)) (k2.v (eL ea xs))) := o_in h h' (neg := false)
theorem o_inT [DecidableEq α] (h : EqOk 11 ea) (h' : EqOk 12 ea) {a : α} {xs : List α} : RE1 .sh eB (.ok (!decide (a ∈ xs))) (kIn true (k1.v (ea a)) (k2.v (eL ea xs))) := o_in h h' (neg := true)
theorem o_inDF {a : Int} {A : List (Int × α)} : RE1 .sh eB (.ok (alook A a).isSome) (kIn false (k1.v (eI a)) (k2.v (eDk ea A))) := o_inD (neg := false)
theorem o_inDT {a : Int} {A : List (Int × α)} : RE1 .sh eB (.ok (!(alook A a).isSome)) (kIn true (k1.v (eI a)) (k2.v (eDk ea A))) := o_inD (neg := true)
variable {tbl : List (Str × Int)}
theorem er_inWF {x : Re Str} (hx : ER m L k1 eS x f) : ER m L .sh eB (x.bind fun w => .ok (tlook tbl w).isSome) (eInW false tbl f) := er_inW (neg := false) hx
theorem er_inWT {x : Re Str} (hx : ER m L k1 eS x f) : ER m L .sh eB (x.bind fun w => .ok (!(tlook tbl w).isSome)) (eInW true tbl f) := er_inW (neg := true) hx
theorem er_inWFp {w : Str} (hx : ER m L k1 eS (.ok w) f) : ER m L .sh eB (.ok (tlook tbl w).isSome) (eInW false tbl f) := er_inW (neg := false) hx
theorem er_inWTp {w : Str} (hx : ER m L k1 eS (.ok w) f) : ER m L .sh eB (.ok (!(tlook tbl w).isSome)) (eInW true tbl f) := er_inW (neg := true) hx
theorem er_getWp {w : Str} (hx : ER m L k1 eS (.ok w) f) : ER m L .sh eI (tgetT tbl w) (eGetW tbl f) := er_getW hx
theorem er_tup2p {a : α} {b : β} (hk1 : k1.ok = true) (hx : ER m L k1 ea (.ok a) f) (hk2 : k2.ok = true) (hy : ER m L k2 eb (.ok b) g) : ER m L .sh (eP2 ea eb) (.ok (a, b)) (eTup (aCons f (aCons g aNil))) := er_tup2 hk1 hx hk2 hy
theorem er_tup3p {a : α} {b : β} {c : γ} (hk1 : k1.ok = true) (hx : ER m L k1 ea (.ok a) f) (hk2 : k2.ok = true) (hy : ER m L k2 eb (.ok b) g) (hk3 : k3.ok = true) (hz : ER m L k3 ec (.ok c) h) : ER m L .sh (eP3 ea eb ec) (.ok (a, b, c)) (eTup (aCons f (aCons g (aCons h aNil)))) := er_tup3 hk1 hx hk2 hy hk3 hz
abbrev eLP2 (ea : α → D) (eb : β → D) : α × β → D := fun p => .l [ea p.1, eb p.2]
abbrev eLP3 (ea : α → D) (eb : β → D) (ec : γ → D) : α × β × γ → D := fun p => .l [ea p.1, eb p.2.1, ec p.2.2]
theorem er_lp2 {x : Re α} {y : Re β} (hk1 : k1.ok = true) (hx : ER m L k1 ea x f) (hk2 : k2.ok = true) (hy : ER m L k2 eb y g) : ER m L .fr (eLP2 ea eb) (x.bind fun a => y.bind fun b => .ok (a, b)) (eLst (aCons f (aCons g aNil))) := fun Γ hΓ => by
  have h1 := hx Γ hΓ
  have h2 := hy Γ hΓ
  rw [eLst_at, aCons_at]
  cases x with
  | ok a =>
    have h1 : f Γ = .ok _ := h1
    simp only [h1, Re.bind_ok, Kd.share hk1, aCons_at]
    cases y with
    | ok b => have h2 : g Γ = .ok _ := h2; simp only [h2, Re.bind_ok, Kd.share hk2]; rfl
    | ex z => have h2 : g Γ = .ex z := h2; simp only [h2]; rfl
    | bad => trivial
  | ex z => have h1 : f Γ = .ex z := h1; rw [h1]; rfl
  | bad => trivial
theorem er_lp2p {a : α} {b : β} (hk1 : k1.ok = true) (hx : ER m L k1 ea (.ok a) f) (hk2 : k2.ok = true) (hy : ER m L k2 eb (.ok b) g) : ER m L .fr (eLP2 ea eb) (.ok (a, b)) (eLst (aCons f (aCons g aNil))) := er_lp2 hk1 hx hk2 hy
theorem er_lp3 {x : Re α} {y : Re β} {z : Re γ} (hk1 : k1.ok = true) (hx : ER m L k1 ea x f) (hk2 : k2.ok = true) (hy : ER m L k2 eb y g) (hk3 : k3.ok = true) (hz : ER m L k3 ec z h) :
    ER m L .fr (eLP3 ea eb ec) (x.bind fun a => y.bind fun b => z.bind fun c => .ok (a, b, c)) (eLst (aCons f (aCons g (aCons h aNil)))) := fun Γ hΓ => by
  have h1 := hx Γ hΓ
  have h2 := hy Γ hΓ
  have h3 := hz Γ hΓ
  rw [eLst_at, aCons_at]
  cases x with
  | ok a =>
    have h1 : f Γ = .ok _ := h1
    simp only [h1, Re.bind_ok, Kd.share hk1, aCons_at]
    cases y with
    | ok b =>
      have h2 : g Γ = .ok _ := h2
      simp only [h2, Re.bind_ok, Kd.share hk2, aCons_at]
      cases z with
      | ok c => have h3 : h Γ = .ok _ := h3; simp only [h3, Re.bind_ok, Kd.share hk3]; rfl
      | ex w => have h3 : h Γ = .ex w := h3; simp only [h3]; rfl
      | bad => trivial
    | ex w => have h2 : g Γ = .ex w := h2; simp only [h2]; rfl
    | bad => trivial
  | ex w => have h1 : f Γ = .ex w := h1; rw [h1]; rfl
  | bad => trivial
theorem er_lp3p {a : α} {b : β} {c : γ} (hk1 : k1.ok = true) (hx : ER m L k1 ea (.ok a) f) (hk2 : k2.ok = true) (hy : ER m L k2 eb (.ok b) g) (hk3 : k3.ok = true) (hz : ER m L k3 ec (.ok c) h) : ER m L .fr (eLP3 ea eb ec) (.ok (a, b, c)) (eLst (aCons f (aCons g (aCons h aNil)))) := er_lp3 hk1 hx hk2 hy hk3 hz
abbrev eZ : List Int → D := fun ns => .z (ns.map .i)
theorem o_slZ {xs : List Int} {lo hi : Option Int} : RE1 .fr (eL eI) (.ok (cut xs lo hi)) (kSl (k1.v (eZ xs)) lo hi) := by
  show kSl _ _ _ = .ok (.fr (.l ((cut xs lo hi).map eI)))
  rw [← cut_map]
  cases k1 <;> rfl
def sameT [DecidableEq α] (ea : α → D) (a b : α) : Re Bool := if a = b ∧ dsame 11 (ea a) = true then .ok true else .bad
theorem sameT_ok [DecidableEq α] {a b : α} (h : a = b) (h2 : dsame 11 (ea a) = true) : sameT ea a b = .ok true := if_pos ⟨h, h2⟩
theorem same_of [DecidableEq α] {F : List D → Re Rv} (hF : ∀ d, dsame 11 d = true → F [d, d] = .ok (.sh (.b true))) (a b : α) : RE1 .sh eB (sameT ea a b) (F [ea a, ea b]) := by
  unfold sameT
  split
  · rename_i h
    rw [← h.1]
    exact hF _ h.2
  · trivial
theorem dsame_L {n : Nat} {xs : List α} (h : ∀ x ∈ xs, dsame n (ea x) = true) (hl : xs.length ≤ 16777216) : dsame (n + 1) (eL ea xs) = true := by
  show ((xs.map ea).all (dsame n) && decide ((xs.map ea).length ≤ 16777216)) = true
  simp only [Bool.and_eq_true, decide_eq_true_eq, List.all_eq_true, List.length_map]
  exact ⟨fun x hx => by obtain ⟨y, hy, rfl⟩ := List.mem_map.mp hx; exact h y hy, hl⟩
theorem dsame_LI {n : Nat} {xs : List Int} (hl : xs.length ≤ 16777216) : dsame (n + 1) (eL eI xs) = true := dsame_L (fun x _ => by cases n <;> rfl) hl
def lfM {τ : Type} (c : Re (List α)) (x : List α → Re (List τ)) : Re (List τ) := match c with
  | .ok as => lcM (x as) | _ => .bad
theorem er_lfm {t : Tg} {own : List Nat} {en : α → Lk} {y : Re (List α)} {c : α → Re Bool} {x : α → Re τ} {fe : FE} (hi : IR m L ea y fi) (ht : TgC m ea t own en) (hk : k.ok = true) (hc : ∀ a, TR m (en a ++ L) (c a) ft) (hx : ∀ a, ER m (en a ++ L) k e (x a) fe) :
    ER m L .fr (eL e) (y.bind fun as => lfM (filT c as) (mapT x)) (eLc fi t ft fe own) := by
  have := er_lf hi ht hk hc hx
  have e1 : (fun as => lfM (filT c as) (mapT x)) = fun as => match filT c as with | .ok as' => lcM (mapT x as') | _ => .bad := by
    funext as
    unfold lfM
    cases filT c as <;> rfl
  rw [e1]
  exact this
def EA (m : Nat) (L : Lk) (e : τ → D) (x : Re τ) (f : FE) : Prop := ∀ Γ, Ag m L Γ → match x with
  | .ok a => ∃ k : Kd, f Γ = .ok (k.v (e a)) | .ex z => f Γ = .ex z | .bad => True
theorem ea_of {x : Re τ} (h : ER m L k e x f) : EA m L e x f := fun Γ hΓ => by
  have h1 := h Γ hΓ
  cases x with
  | ok a => exact ⟨k, h1⟩
  | ex z => exact h1
  | bad => trivial
theorem ea_if {x : Re Bool} {y z : Re τ} (hx : TR m L x ft) (hy : EA m L e y f) (hz : EA m L e z g) : EA m L e (x.bind fun b => if b = true then y else z) (eIf ft f g) := fun Γ hΓ => by
  have h1 := hx Γ hΓ
  cases x with
  | ok a =>
    have h1 : ft Γ = .ok a := h1
    have e1 : eIf ft f g Γ = if a = true then f Γ else g Γ := by show (ft Γ).bind _ = _; rw [h1]; rfl
    rw [e1]
    cases a with
    | true => exact hy Γ hΓ
    | false => exact hz Γ hΓ
  | ex w => have h1 : ft Γ = .ex w := h1; show (ft Γ).bind _ = _; rw [h1]; rfl
  | bad => trivial
theorem er_2a {x : Re α} {y : Re β} {t : α → β → Re τ} {o : Rv → Rv → Re Rv} (hx : ER m L k1 ea x f) (hy : EA m L eb y g) (ho : ∀ (k2 : Kd) a b, RE1 k e (t a b) (o (k1.v (ea a)) (k2.v (eb b)))) : ER m L k e (x.bind fun a => y.bind fun b => t a b) (e2 o f g) := fun Γ hΓ => by
  have h2 := hy Γ hΓ
  cases y with
  | ok b =>
    obtain ⟨k2, h2⟩ := h2
    have hy' : ER m [] k2 eb (.ok b) fun _ => g Γ := fun _ _ => h2
    have hx' : ER m [] k1 ea x fun _ => f Γ := fun _ _ => hx Γ hΓ
    exact er_2 hx' hy' (ho k2) Γ ⟨hΓ.len, fun i r h => by cases h⟩
  | ex z =>
    have hy' : ER m [] .sh eb (.ex z) fun _ => g Γ := fun _ _ => h2
    have hx' : ER m [] k1 ea x fun _ => f Γ := fun _ _ => hx Γ hΓ
    exact er_2 hx' hy' (ho .sh) Γ ⟨hΓ.len, fun i r h => by cases h⟩
  | bad =>
    have h1 := hx Γ hΓ
    cases x with
    | ok a => trivial
    | ex z =>
      have h1 : f Γ = .ex z := h1
      show (f Γ).bind _ = _
      rw [h1]; rfl
    | bad => trivial
abbrev eDs (e : α → D) : List (Str × α) → D := fun A => .dk (A.map fun p => .inr p.1) (A.map fun p => e p.2)
theorem er_k {a : τ} (h : ∀ Γ, f Γ = .ok (k.v (e a))) : ER m L k e (.ok a) f := fun Γ _ => h Γ
theorem inr_inj : ∀ a b : Str, (Sum.inr a : Key) = .inr b → a = b := fun _ _ h => Sum.inr.inj h
def sgetT (A : List (Str × α)) (a : Str) : Re α := match alook A a with
  | some v => .ok v | none => .bad
theorem o_sdget {a : Str} {A : List (Str × α)} : RE1 .sh ea (sgetT A a) (kDget (k1.v (eDs ea A)) (k2.v (eS a))) := by
  unfold sgetT
  split
  · rename_i v hv
    show kDget _ _ = _
    unfold kDget
    rw [Kd.v_d, Kd.v_d]
    dsimp only [dlook, D.key?, Option.map_some]
    rw [kget_map (ea := ea) inr_inj A a, hv]
    rfl
  · trivial
theorem er_sget2 {A : List (Str × α)} {y : Re Str} {z : Re α} (hx : ER m L k1 (eDs ea) (.ok A) f) (hy : ER m L k2 eS y g) (hz : ER m L .sh ea z h) : ER m L .sh ea (y.bind fun w => z.bind fun d => .ok ((alook A w).getD d)) (eGet2 f g h) := fun Γ hΓ => by
  have h1 : f Γ = .ok _ := hx Γ hΓ
  have h2 := hy Γ hΓ
  have h3 := hz Γ hΓ
  unfold eGet2
  simp only [h1, Re.bind_ok, Kd.v_d, D.isD, if_true]
  cases y with
  | ok w =>
    have h2 : g Γ = .ok _ := h2
    simp only [h2, Re.bind_ok]
    cases z with
    | ok d =>
      have h3 : h Γ = .ok _ := h3
      simp only [h3, Re.bind_ok]
      show kGet2 _ _ _ = _
      unfold kGet2
      rw [Kd.v_d, Kd.v_d]
      dsimp only [dlook, D.key?, Option.map_some]
      rw [kget_map (ea := ea) inr_inj A w]
      cases alook A w <;> rfl
    | ex w' => have h3 : h Γ = .ex w' := h3; simp only [h3]; rfl
    | bad => trivial
  | ex w' => have h2 : g Γ = .ex w' := h2; simp only [h2]; rfl
  | bad => trivial
def lastT (c : Str × List Int) : Re Int := match c.2.getLast? with
  | some a => .ok a | none => .bad
theorem o_clLast {c : Str × List Int} : RE1 .sh eI (lastT c) (kIx (k1.v (eCl c)) (k2.v (eI (-1)))) := by
  unfold lastT
  split
  · rename_i a h
    show kIx _ _ = _
    rw [kIxt]
    obtain ⟨w, as⟩ := c
    have hne : as ≠ [] := by rintro rfl; simp at h
    have hl : 0 < as.length := List.length_pos_iff.mpr hne
    have e1 : atI (D.s w :: as.map D.i) (-1) = some (.i a) := by
      unfold atI ixN
      rw [if_neg (by decide)]
      simp only [List.length_cons, List.length_map]
      rw [if_pos (by omega)]
      have e0 : ((-1 : Int) + ((as.length + 1 : Nat) : Int)).toNat = (as.length - 1) + 1 := by omega
      rw [List.getLast?_eq_getElem?] at h
      have h : as[as.length - 1]? = some a := h
      show (D.s w :: as.map D.i)[((-1 : Int) + ((as.length + 1 : Nat) : Int)).toNat]? = _
      rw [e0, List.getElem?_cons_succ, List.getElem?_map, h]
      rfl
    unfold ixR
    rw [e1]
    rfl
  · trivial
theorem ir_r1p {b : Int} (hx : ER m L .sh eI (.ok b) f) : IR m L eI (rngT 0 b) (itR1 f) := ir_r1 hx
theorem ir_r2p {a b : Int} (hx : ER m L .sh eI (.ok a) f) (hy : ER m L .sh eI (.ok b) g) : IR m L eI (rngT a b) (itR2 f g) := ir_r2 hx hy
theorem ir_r3p {a b c : Int} (hx : ER m L .sh eI (.ok a) f) (hy : ER m L .sh eI (.ok b) g) (hz : ER m L .sh eI (.ok c) h) : IR m L eI (rng3T a b c) (itR3 f g h) := ir_r3 hx hy hz
theorem ir_enp {xs : List τ} (hk : k1.ok = true) (hx : ER m L k1 (eL e) (.ok xs) f) : IR m L (eP2 eI e) (.ok (enumI xs)) (itE f) := ir_en hk hx
theorem ir_sp {x : Str} (hx : ER m L .sh eS (.ok x) f) : IR m L eS (.ok (signsT x)) (itA f) := ir_s hx
theorem er_idxp {a : List Int} {b : Int} (hx : ER m L k1 (eL eI) (.ok a) f) (hy : ER m L k2 eI (.ok b) g) : ER m L .sh eI (idxT a b) (eIdx f g) := er_idx hx hy
theorem or_ip {a : Int} (hx : ER m L .sh eI (.ok a) f) : OR' m L (.ok (some a)) (oIs f) := or_i hx
theorem er_slp {a : α} {l u : Option Int} {z : Re τ} {fl fh : FO} (hx : ER m L k1 ea (.ok a) f) (hl : OR' m L (.ok l) fl) (hh : OR' m L (.ok u) fh) (ho : RE1 k e z (kSl (k1.v (ea a)) l u)) : ER m L k e z (eSl f fl fh) := fun Γ hΓ => by
  have h1 : f Γ = .ok _ := hx Γ hΓ
  have h2 : fl Γ = .ok _ := hl Γ hΓ
  have h3 : fh Γ = .ok _ := hh Γ hΓ
  rw [eSl_at]
  simp only [h1, h2, h3, Re.bind_ok]
  exact ho
@[simp] theorem forT_nil {B : S → α → Re S} {s : S} : forT B [] s = .ok s := rfl
theorem forT_cons {B : S → α → Re S} {a : α} {as : List α} {s : S} : forT B (a :: as) s = (B s a).bind fun s' => forT B as s' := rfl
theorem forT_unit {B : Unit → α → Re Unit} : ∀ {as : List α}, (∀ a ∈ as, B () a = .ok ()) → forT B as () = .ok ()
  | [], _ => rfl
  | a :: as, h => by rw [forT_cons, h a List.mem_cons_self]; exact forT_unit fun b hb => h b (List.mem_cons_of_mem _ hb)
theorem forT_fold {B : S → α → Re S} {st : S → α → S} {I : S → Prop} : ∀ {as : List α} {s : S}, I s → (∀ s a, a ∈ as → I s → B s a = .ok (st s a) ∧ I (st s a)) → forT B as s = .ok (as.foldl st s) ∧ I (as.foldl st s)
  | [], s, h, _ => ⟨rfl, h⟩
  | a :: as, s, h, hs => by
    obtain ⟨h1, h2⟩ := hs s a List.mem_cons_self h
    rw [forT_cons, h1]
    exact forT_fold h2 fun s b hb => hs s b (List.mem_cons_of_mem _ hb)
theorem forT_inv {B : S → α → Re S} {as : List α} {I : Nat → S → Prop} : ∀ (n j : Nat) {s : S}, j + n = as.length → I j s → (∀ i (h : i < as.length) s, j ≤ i → I i s → ∃ s', B s as[i] = .ok s' ∧ I (i + 1) s') → ∃ s', forT B (as.drop j) s = .ok s' ∧ I as.length s'
  | 0, j, s, hj, h, _ => by
    have : j = as.length := by omega
    subst this
    exact ⟨s, by rw [List.drop_length]; rfl, h⟩
  | n + 1, j, s, hj, h, hs => by
    have hl : j < as.length := by omega
    obtain ⟨s1, h1, h2⟩ := hs j hl s (Nat.le_refl _) h
    obtain ⟨s2, h3, h4⟩ := forT_inv n (j + 1) (by omega) h2 fun i hi s hij => hs i hi s (by omega)
    exact ⟨s2, by rw [List.drop_eq_getElem_cons hl, forT_cons, h1]; exact h3, h4⟩
theorem forT_num {B : S → α → Re S} {as : List α} {I : Nat → S → Prop} {s : S} (h : I 0 s) (hs : ∀ i (h : i < as.length) s, I i s → ∃ s', B s as[i] = .ok s' ∧ I (i + 1) s') : ∃ s', forT B as s = .ok s' ∧ I as.length s' := by
  have := forT_inv (B := B) (I := I) as.length 0 (by omega) h fun i hi s _ => hs i hi s
  rwa [List.drop_zero] at this
theorem mapT_ok {x : α → Re τ} {g : α → τ} : ∀ {as : List α}, (∀ a ∈ as, x a = .ok (g a)) → mapT x as = .ok (as.map g)
  | [], _ => rfl
  | a :: as, h => by
    unfold mapT
    rw [h a List.mem_cons_self]
    dsimp only
    rw [mapT_ok fun b hb => h b (List.mem_cons_of_mem _ hb)]
    rfl
theorem lcM_ok {ys : List τ} (h : ys.length ≤ 16777216) : lcM (.ok ys) = .ok ys := lcP_ok h
@[simp] theorem nxT_ok {a : α} : nxT (.ok a) = .ok a := rfl
theorem re_true {T : Re Bool} {y : Re Rv} (h : RE1 .sh eB T y) (ht : T = .ok true) : y = .ok (.sh (.b true)) := by
  rw [ht] at h
  exact h
theorem rangeI_len (a b : Int) : (rangeI a b).length = (b - a).toNat := by simp [rangeI]
theorem mem_rangeI {a b x : Int} : x ∈ rangeI a b ↔ a ≤ x ∧ x < b := by
  simp only [rangeI, List.mem_map, List.mem_range]
  constructor
  · rintro ⟨i, h, rfl⟩; omega
  · rintro ⟨h1, h2⟩; exact ⟨(x - a).toNat, by omega, by omega⟩
theorem rangeI_get {a b : Int} {i : Nat} (h : i < (rangeI a b).length) : (rangeI a b)[i] = a + (i : Nat) := by simp [rangeI]
theorem rngT_small {a b : Int} (h1 : -4000000000000000000 ≤ a ∧ a ≤ 4000000000000000000) (h2 : -4000000000000000000 ≤ b ∧ b ≤ 4000000000000000000) : rngT a b = .ok (rangeI a b) := rngT_ok (by unfold rgb; exact decide_eq_true ⟨by omega, by omega, by omega, by omega⟩)
theorem lrT_small {a b : Int} (h1 : -4000000000000000000 ≤ a ∧ a ≤ 4000000000000000000) (h2 : -4000000000000000000 ≤ b ∧ b ≤ 4000000000000000000) (h3 : b - a ≤ 16777216) : lrT a b = .ok (rangeI a b) := lrT_ok (by unfold rgOk; exact decide_eq_true ⟨by omega, by omega, by omega, by omega, by omega⟩)
end
end Ly
end

section
set_option maxRecDepth 100000
namespace Ly
open PySem PySem.Spec L2
open PyProof.Rows hiding St
def keyD : Key → D
  | .inl z => .i z | .inr x => .s x
theorem Reps.keysR {K : PySem.W.Frag} {G : Hp} : ∀ ks : List Key, Reps K G (ks.map kV) (ks.map keyD)
  | [] => .nil
  | .inl z :: ks => .cons (.i z) (Reps.keysR ks)
  | .inr x :: ks => .cons (.s x) (Reps.keysR ks)
section
variable [Tb] {X : Cx} {c : LC} {a b e : Expr} {f g h : FE} {pos : Pos}
def kListD : Rv → Re Rv := fun x => match x with
  | .fr (.dk ks _) => .ok (.fr (.l (ks.map keyD)))
  | .bo (.dk ks _) => .ok (.fr (.l (ks.map keyD)))
  | _ => .bad
theorem re_listD (cy : Cy X c) {p : Pos} (hg : Gl X "list") (hm : X.mg "list" = none) (ha : PE X a (tE c f)) (hs : starEach [a] X.env = [(false, eval a X.env)] := by rfl) : PE X (.Call (.Name "list" p) [a] [] pos) (tE c (e1 kListD f)) := by
  refine re_t1 (r := rListD) (call_list_dK cy.calm) ?_ hg hm (by decide +kernel) ha (by decide) (by decide) hs
  intro σ G H x rx Q gh bh hx q
  have main : ∀ (p : Addr) (ks : List Key) (ds : List D), Own c.K G H p (.dk ks ds) → Post c (.ok (.fr (.l (ks.map keyD)))) σ G H Q → rListD [.ref p] H Q := by
    intro p ks ds o q
    cases o with
    | dk h1 h2 h3 =>
      subst h2
      refine ⟨p, _, rfl, h1, ?_⟩
      have r := Reps.keysR (K := c.K) (G := G) (List.map (·.1) ‹List (Key × V)›)
      rw [List.map_map] at r
      exact post_lst bh gh q r
  unfold kListD at q
  split at q
  · rename_i ks ds
    obtain ⟨p, rfl, _, _, o⟩ := hx
    exact main p ks ds o q
  · rename_i ks ds
    obtain ⟨p, rfl, _, _, o⟩ := hx
    exact main p ks ds o q
  · exact q.elim
end
section
variable {m : Nat} {L : Lk} {k k1 k2 k3 k4 k5 : Kd} {α β γ δ ε τ ω S : Type} {e : τ → D} {ea : α → D} {eb : β → D} {f g h : FE}
theorem o_listD {A : List (Int × α)} (hk : k1 ≠ .sh) : RE1 .fr (eL eI) (.ok (A.map fun p => p.1)) (kListD (k1.v (eDk ea A))) := by
  have : (A.map fun p => (.inl p.1 : Key)).map keyD = (A.map fun p => p.1).map eI := by rw [List.map_map, List.map_map]; rfl
  cases k1 with
  | sh => exact absurd rfl hk
  | fr => show Re.ok (Rv.fr (D.l _)) = Re.ok (Rv.fr (D.l _)); rw [this]
  | bo => show Re.ok (Rv.fr (D.l _)) = Re.ok (Rv.fr (D.l _)); rw [this]
end
end Ly
end

section
set_option maxRecDepth 100000
namespace SumG
open PySem PySem.Spec PyProof.Rows
open Sem (wp)
section
variable {prog : Program} {w : World} {A : Around} {R : Result → Shared → Prop} {I : Addr} {fp wr : List Addr} {n : Nat} {P : Nat → Value → Prop} {St : Nat → Heap → Prop}
theorem code_sumG (W : Walks prog w A.in1 I fp wr n P St) (S : Addr) (hSf : S ∉ fp) (Ac : Nat → Addr → Heap → Prop)
    (hAk : ∀ i p h h', Ac i p h → (∀ b o, b ∉ S :: wr → h.get? b = some o → h'.get? b = some o) → Ac i p h')
    (hAdd : ∀ i v p (s : Shared) (Q : Value → Shared → Prop) (E : Value → Shared → Prop), i < n → P i v → Ac i p s.heap → S < s.heap.objs.size →
      (∀ h' x, (∀ b o, s.heap.get? b = some o → h'.get? b = some o) → Ac (i + 1) x h' → Q (.ref x) { s with heap := h' }) → wpAny (model prog w) A.in1 (binaryOp .Add (.ref p) v) Q E s) :
    ∀ (k i : Nat) (s : Shared) (p : Addr) (c : Nat), n - i = k → i ≤ n → St i s.heap → Ac i p s.heap → s.heap.get? S = some { cls := .type "list", dict := none, data := .seq #[.ref p] c, slots := #[] } →
    (∀ h' tk q, (∀ b o, b ∉ S :: wr → s.heap.get? b = some o → h'.get? b = some o) → Ac n q h' → R (.ok (.ret (.ref q))) { s with heap := h', toks := tk }) →
    codeAny (model prog w) A (.builtin "sum.loop" ⟨[.ref I, .ref S, rawInt 2, rawInt 0], []⟩) R s := by
  have hSw : S ∉ wr := fun h => hSf (W.sub _ h)
  have hsub : ∀ b, b ∉ S :: wr → b ∉ wr := fun b hb h => hb (List.mem_cons_of_mem _ h)
  have hne : ∀ b, b ∉ S :: wr → S ≠ b := fun b hb e => hb (by rw [e]; exact List.mem_cons_self)
  intro k
  induction k with
  | zero =>
    intro i s p c hk hi hst hA hS hR
    have hin : i = n := by omega
    subst hin
    refine codeAny_builtin F.entry_sum_loop ?_
    rw [Around.under_plainId F.plain_sum_loop _]
    show wpAny _ A.in1 (seqItems? (.ref S) >>= _) _ _ s
    refine wpAny_bind (wpAny_seqItems hS rfl ?_)
    show wpAny _ A.in1 (tryCatch (pyNext (.ref I)) _ >>= _) _ _ s
    refine wpAny_bind (wpAny_tryCatch (W.done s _ _ hst fun h' tk hm => ?_))
    have hm' : ∀ b o, b ∉ S :: wr → s.heap.get? b = some o → h'.get? b = some o := fun b o hb e => hm b o (hsub b hb) e
    exact wpAny_pure (hR h' tk p hm' (hAk _ _ _ _ hA hm'))
  | succ k ih =>
    intro i s p c hk hi hst hA hS hR
    have hlt : i < n := by omega
    refine codeAny_builtin F.entry_sum_loop ?_
    rw [Around.under_plainId F.plain_sum_loop _]
    show wpAny _ A.in1 (seqItems? (.ref S) >>= _) _ _ s
    refine wpAny_bind (wpAny_seqItems hS rfl ?_)
    show wpAny _ A.in1 (tryCatch (pyNext (.ref I)) _ >>= _) _ _ s
    refine wpAny_bind (wpAny_tryCatch (W.item i s _ _ hlt hst fun v h1 tk hP hst1 hm => ?_))
    have hm' : ∀ b o, b ∉ S :: wr → s.heap.get? b = some o → h1.get? b = some o := fun b o hb e => hm b o (hsub b hb) e
    have hA1 := hAk _ _ _ _ hA hm'
    have hS1 := hm S _ hSw hS
    show wpAny _ A.in1 ((holding [v] (binaryOp .Add (.ref p) v)).attempt >>= _) _ _ _
    refine wpAny_bind (wpAny_attempt (wpAny_holding (hAdd i v p _ _ _ hlt hP hA1 (Heap.lt_size hS1) fun h2 x k2 hA2 => ?_)))
    have hS2 := k2 S _ hS1
    show wpAny _ A.in1 (updateSeq S (fun _ => #[.ref x]) >>= _) _ _ _
    refine wpAny_bind (wpAny_updateSeq hS2 rfl ?_)
    have hS3 := Heap.get?_update_self (Obj.mapSeq fun _ => #[Value.ref x]) hS2 rfl
    refine wpAny_bind (wpAny_letGo ?_)
    have k3 : ∀ b o, b ∉ S :: wr → h2.get? b = some o → ((h2.update S (Obj.mapSeq fun _ => #[Value.ref x])).update S (Obj.mapSeq fun _ => #[Value.ref x])).get? b = some o := fun b o hb e =>
      (Heap.get?_update_other _ _ (hne b hb)).trans ((Heap.get?_update_other _ _ (hne b hb)).trans e)
    refine wpAny_bind (wpAny_updateSeq hS3 rfl (wpAny_pure ⟨plainId_quiet F.plain_sum_loop _, ih (i + 1) _ x _ (by omega) hlt (W.frame _ _ _ hst1 fun b hb o e => ?_) (hAk _ _ _ _ hA2 k3) (Heap.get?_update_self _ hS3 rfl) fun h' tk' q hk' hq => ?_⟩))
    · have hn : S ≠ b := fun h => hSf (by rw [h]; exact hb)
      exact (Heap.get?_update_other _ _ hn).trans ((Heap.get?_update_other _ _ hn).trans (k2 b o e))
    · exact hR h' tk' q (fun b o hb e => hk' b o hb (k3 b o hb (k2 b o (hm' b o hb e)))) hq
end
section
variable {prog : Program} {w : World} {A : Around} {E : Value → Shared → Prop} {s : Shared}
theorem sub_list_str : isSubtype (.type "list") (.type "str") = pure false := by rw [isSubtype_type]; kernel_rfl
theorem sub_list_bytes : isSubtype (.type "list") (.type "bytes") = pure false := by rw [isSubtype_type]; kernel_rfl
theorem sub_list_bytearray : isSubtype (.type "list") (.type "bytearray") = pure false := by rw [isSubtype_type]; kernel_rfl
theorem sub_tuple_str : isSubtype (.type "tuple") (.type "str") = pure false := by rw [isSubtype_type]; kernel_rfl
theorem sub_tuple_bytes : isSubtype (.type "tuple") (.type "bytes") = pure false := by rw [isSubtype_type]; kernel_rfl
theorem sub_tuple_bytearray : isSubtype (.type "tuple") (.type "bytearray") = pure false := by rw [isSubtype_type]; kernel_rfl
theorem args_sum2 (a b : Value) : argsOk "sum" ⟨[a, b], []⟩ := by unfold argsOk; kernel_rfl
theorem call_sumG {l b : Addr} {T : String} {ob : Obj} {items : Array Value} {Q : Value → Shared → Prop} (hh : A.handled = none) (hl : s.heap.IsList l items) (hb : s.heap.get? b = some ob) (hc : ob.cls = .type T)
    (h1 : isSubtype (.type T) (.type "str") = pure false) (h2 : isSubtype (.type T) (.type "bytes") = pure false) (h3 : isSubtype (.type T) (.type "bytearray") = pure false)
    (Ac : Nat → Addr → Heap → Prop)
    (hA0 : ∀ h' : Heap, (∀ b o, s.heap.get? b = some o → h'.get? b = some o) → Ac 0 b h')
    (hAk : ∀ (i : Nat) (p : Addr) (h h' : Heap), Ac i p h → (∀ b o, b ≠ s.heap.objs.size → b ≠ s.heap.objs.size + 1 → h.get? b = some o → h'.get? b = some o) → Ac i p h')
    (hAdd : ∀ (i : Nat) (v : Value) (p : Addr) (s' : Shared) (Q : Value → Shared → Prop) (E : Value → Shared → Prop), items[i]? = some v → Ac i p s'.heap → s.heap.objs.size + 1 < s'.heap.objs.size →
      (∀ (h' : Heap) (x : Addr), (∀ b o, s'.heap.get? b = some o → h'.get? b = some o) → Ac (i + 1) x h' → Q (.ref x) { s' with heap := h' }) → wpAny (model prog w) A.in1 (binaryOp .Add (.ref p) v) Q E s')
    (hQ : ∀ (h' : Heap) (tk : Nat) (q : Addr), (∀ b o, s.heap.get? b = some o → h'.get? b = some o) → Ac items.size q h' → Q (.ref q) { s with heap := h', toks := tk }) :
    wpAny (model prog w) A (call (.builtin "sum") [.ref l, .ref b]) Q E s := by
  have bl : b < s.heap.objs.size := Heap.lt_size hb
  have ll : l < s.heap.objs.size := let ⟨_, e, _⟩ := hl; Heap.lt_size e
  refine call_function_tree F.kind_sum F.plain_sum F.entry_sum (args_sum2 _ _) ?_
  unfold Builtin.«sum»
  simp only [List.length_cons, List.length_nil]
  rw [if_neg (by decide)]
  refine wpAny_bind (wpAny_of_eq (show Builtin.Builtins.bindParams "sum" ["start"] 0 ⟨[.ref b], []⟩ = pure [some (.ref b)] from rfl) ?_)
  refine wpAny_bind (wpAny_pyIter_list hl ?_)
  refine wpAny_bind (wpAny_pure ?_)
  have k1 : ∀ b o, s.heap.get? b = some o → (s.heap.push { cls := .type "list_iterator", data := .fields #[.ref l, .int 0 0] }).get? b = some o := fun b o e => Heap.get?_push_of_some _ e
  have hT : ∀ s' : Shared, s'.heap = s.heap.push { cls := .type "list_iterator", data := .fields #[.ref l, .int 0 0] } → s'.TypeIs (.ref b) T := fun s' e => ⟨ob, by rw [e]; exact k1 _ _ hb, hc⟩
  simp only [List.forIn_cons, List.forIn_nil]
  refine wpAny_bind (wpAny_bind (wpAny_bind (wpAny_isInstance (T := T) (b := false) (hT _ rfl) h1 ?_)))
  simp only [Bool.false_eq_true, if_false]
  refine wpAny_pure (wpAny_bind (wpAny_bind (wpAny_isInstance (T := T) (b := false) (hT _ rfl) h2 ?_)))
  simp only [Bool.false_eq_true, if_false]
  refine wpAny_pure (wpAny_bind (wpAny_bind (wpAny_isInstance (T := T) (b := false) (hT _ rfl) h3 ?_)))
  simp only [Bool.false_eq_true, if_false]
  refine wpAny_pure (wpAny_pure ?_)
  refine wpAny_bind (wpAny_newObj_type ?_)
  have sz1 : (s.heap.push { cls := .type "list_iterator", data := .fields #[.ref l, .int 0 0] }).objs.size = s.heap.objs.size + 1 := Heap.size_push ..
  have W := Walks.list (prog := prog) (w := w) (A := A.in1) hh s.heap.objs.size l (Nat.ne_of_lt ll) items
  have k2 : ∀ b o, s.heap.get? b = some o → ((s.heap.push { cls := .type "list_iterator", data := .fields #[.ref l, .int 0 0] }).push { cls := .type "list", data := .seq #[.ref b] }).get? b = some o := fun b o e => Heap.get?_push_of_some _ (k1 b o e)
  refine wpAny_pure ⟨plainId_quiet F.plain_sum_loop _, code_sumG W _ ?_ Ac ?_ ?_ items.size 0 _ b _ rfl (Nat.zero_le _) ?_ (hA0 _ fun c o e => Heap.get?_push_of_some _ (k1 c o e)) (Heap.get?_push_size _ rfl) ?_⟩
  · rw [sz1]
    intro hm
    simp only [List.mem_cons, List.not_mem_nil, or_false] at hm
    rcases hm with h | h
    · exact Nat.succ_ne_self _ h
    · exact Nat.ne_of_gt (Nat.lt_succ_of_lt ll) h
  · intro i p h h' hA hk
    refine hAk i p h h' hA fun c o n1 n2 e => hk c o ?_ e
    rw [sz1]
    simp only [List.mem_cons, List.not_mem_nil, or_false, not_or]
    exact ⟨n2, n1⟩
  · intro i v p s' Q' E' _ hv hA hlt hq
    rw [sz1] at hlt
    exact hAdd i v p s' Q' E' hv hA hlt hq
  · exact ⟨⟨_, Heap.get?_push_of_some _ (Heap.get?_push_size _ rfl), rfl, rfl⟩, (hl.push _).push _⟩
  · intro h' tk q hk hA
    refine hQ h' tk q (fun c o e => hk c o ?_ (Heap.get?_push_of_some _ (k1 c o e))) hA
    have hc := Heap.lt_size e
    rw [sz1]
    simp only [List.mem_cons, List.not_mem_nil, or_false, not_or]
    exact ⟨Nat.ne_of_lt (Nat.lt_succ_of_lt hc), Nat.ne_of_lt hc⟩
end
end SumG
namespace Ly
open PySem PySem.Spec L2
open PyProof.Rows hiding St
variable [Tb]
section
variable {X : Cx}
def rSumL (K : PySem.W.Frag) : List V → Hp → VK → Prop := fun vs H Q => ∃ (a b : Addr) (as : List Addr) (xs0 : List V) (xss : List (List V)), vs = [V.ref a, V.ref b] ∧ SqL K H a (as.map V.ref) ∧ H b = some (.lst xs0) ∧
  Paired (fun p xs => H p = some (.lst xs)) as xss ∧ (xs0 ++ xss.flatten).length ≤ sizeLine ∧ (as = [] → Q (.ref b) H) ∧ (∀ p, H p = none → Q (.ref p) (upd H p (.lst (xs0 ++ xss.flatten))))
theorem Vals.refs : ∀ {as : List Addr} {us : List Value}, Vals (as.map V.ref) us → us = as.map Value.ref
  | [], _, .nil => rfl
  | a :: as, _, .cons r t => by cases r; rw [List.map_cons, Vals.refs t]
theorem Paired.getP {α β : Type} {F : α → β → Prop} : ∀ {l : List α} {m : List β} {i : Nat} {a : α}, Paired F l m → l[i]? = some a → ∃ b, m[i]? = some b ∧ F a b
  | _, _, _, _, .nil, e => by simp at e
  | _, _, 0, _, .cons r _, e => by simp at e; subst e; exact ⟨_, rfl, r⟩
  | _, _, i + 1, a, .cons _ t, e => by
    obtain ⟨b, h1, h2⟩ := Paired.getP (i := i) (a := a) t (by simpa using e)
    exact ⟨b, by simpa using h1, h2⟩
theorem take_flat {α : Type} {xss : List (List α)} {i : Nat} {xs : List α} (h : xss[i]? = some xs) : (xss.take (i + 1)).flatten = (xss.take i).flatten ++ xs := by
  obtain ⟨hi, e⟩ := List.getElem?_eq_some_iff.mp h
  rw [List.take_succ, List.getElem?_eq_getElem hi, e]
  simp
theorem take_flat_le {α : Type} (xss : List (List α)) : ∀ (i : Nat), ((xss.take i).flatten).length ≤ xss.flatten.length := fun i => by
  conv => rhs; rw [← List.take_append_drop i xss, List.flatten_append, List.length_append]
  exact Nat.le_add_right _ _
theorem cr_sumL (hc : X.calm = true) : CallR X (.builtin "sum") (rSumL X.K) := by
  intro pins s σ H vs us Q I r h
  obtain ⟨a, b, as, xs0, xss, rfl, hs, hb, hp, hz, q0, q1⟩ := h
  obtain ⟨its, rv, hl, _⟩ := I.list hs
  have e := Vals.refs rv
  subst e
  obtain ⟨_, ib, nb, rb, _, eb⟩ := I.lstM hb
  have hn : as.length = xss.length := Paired.length hp
  cases r with
  | cons r1 r2 =>
  cases r2 with
  | cons r2 r3 =>
  cases r3
  cases r1
  cases r2
  have blt : b < s.heap.objs.size := Heap.lt_size eb
  refine SumG.call_sumG (T := "list") (I.ok.hd hc) hl.isList eb rfl SumG.sub_list_str SumG.sub_list_bytes SumG.sub_list_bytearray
    (fun i p h => (∀ b o, s.heap.get? b = some o → h.get? b = some o) ∧ ((i = 0 ∧ p = b) ∨ s.heap.objs.size + 1 < p) ∧ ∃ (its : List Value) (n : Nat), h.get? p = some { cls := .type "list", data := .seq its.toArray n } ∧ Vals (xs0 ++ (xss.take i).flatten) its)
    ?_ ?_ ?_ ?_
  · intro h' hk
    refine ⟨hk, .inl ⟨rfl, rfl⟩, ib, nb, hk _ _ eb, ?_⟩
    simpa using rb
  · rintro i p h h' ⟨k0, hp, its, n, e, rr⟩ hk
    refine ⟨fun c o e => hk c o (Nat.ne_of_lt (Heap.lt_size e)) (Nat.ne_of_lt (Nat.lt_succ_of_lt (Heap.lt_size e))) (k0 c o e), hp, its, n, hk p _ ?_ ?_ e, rr⟩
    · rcases hp with ⟨_, rfl⟩ | hp
      · exact Nat.ne_of_lt blt
      · exact Nat.ne_of_gt (Nat.lt_of_succ_lt hp)
    · rcases hp with ⟨_, rfl⟩ | hp
      · exact Nat.ne_of_lt (Nat.lt_succ_of_lt blt)
      · exact Nat.ne_of_gt hp
  · rintro i v p s' Q' E' hv ⟨k0, hpp, its, n, e, rr⟩ hlt hq
    have hv' : (as.map Value.ref)[i]? = some v := by simpa using hv
    rw [List.getElem?_map] at hv'
    obtain ⟨ai, ea, rfl⟩ := Option.map_eq_some_iff.mp hv'
    obtain ⟨xs, ex, hx⟩ := Paired.getP hp ea
    obtain ⟨_, i2, n2, r2, _, e2⟩ := I.lstM hx
    have ra := rr.append r2
    rw [List.append_assoc, ← take_flat ex] at ra
    have hz2 : its.length + i2.length ≤ sizeLine := by
      rw [← List.length_append, ← ra.length, List.length_append]
      rw [List.length_append] at hz
      exact Nat.le_trans (Nat.add_le_add_left (take_flat_le xss (i + 1)) _) hz
    refine PySem.P.add_list e (k0 _ _ e2) ?_ (by rw [List.size_toArray, List.size_toArray]; exact hz2)
    have ee : its.toArray ++ i2.toArray = (its ++ i2).toArray := by simp
    rw [ee]
    refine hq _ _ (fun c o e => Heap.get?_push_of_some _ e) ⟨fun c o e => Heap.get?_push_of_some _ (k0 c o e), .inr hlt, its ++ i2, 0, Heap.get?_push_size _ rfl, ra⟩
  · rintro h' tk q hk ⟨k0, hq, its, n, e, rr⟩
    rw [List.size_toArray, List.length_map, hn, List.take_length] at rr
    rw [List.size_toArray, List.length_map] at hq
    rcases hq with ⟨h0, rfl⟩ | hq
    · exact ⟨.ref q, H, I.kept hk, rfl, q0 (List.eq_nil_of_length_eq_zero h0)⟩
    · have hq' : s.heap.objs.size ≤ q := Nat.le_of_lt (Nat.lt_of_succ_lt hq)
      exact ⟨.ref q, _, I.laid (o := .lst (xs0 ++ xss.flatten)) hk hq' ⟨hz, its, n, rr, e⟩, rfl, q1 q (I.hok.fresh hq')⟩
def rSumT (K : PySem.W.Frag) : List V → Hp → VK → Prop := fun vs H Q => ∃ (a b : Addr) (as : List Addr) (xs0 : List V) (xss : List (List V)), vs = [V.ref a, V.ref b] ∧ SqL K H a (as.map V.ref) ∧ SqT K H b xs0 ∧
  Paired (fun p xs => SqT K H p xs) as xss ∧ (xs0 ++ xss.flatten).length ≤ sizeLine ∧ (∀ p, p ∈ b :: as → (∀ zs, SqT K H p zs → zs = xs0 ++ xss.flatten) → Q (.ref p) H) ∧ (∀ p, H p = none → Q (.ref p) (upd H p (.tup (xs0 ++ xss.flatten))))
theorem cr_sumT (hc : X.calm = true) : CallR X (.builtin "sum") (rSumT X.K) := by
  intro pins s σ H vs us Q I r h
  obtain ⟨a, b, as, xs0, xss, rfl, hs, hb, hp, hz, q0, q1⟩ := h
  obtain ⟨its, rv, hl, _⟩ := I.list hs
  have e := Vals.refs rv
  subst e
  obtain ⟨ib, rb, tb, _⟩ := I.tuple hb
  have hn : as.length = xss.length := Paired.length hp
  cases r with
  | cons r1 r2 =>
  cases r2 with
  | cons r2 r3 =>
  cases r3
  cases r1
  cases r2
  obtain ⟨ob, eb, cb, _⟩ := id tb
  refine SumG.call_sumG (T := "tuple") (I.ok.hd hc) hl.isList eb cb SumG.sub_tuple_str SumG.sub_tuple_bytes SumG.sub_tuple_bytearray
    (fun i p h => (∀ b o, s.heap.get? b = some o → h.get? b = some o) ∧ ((p < s.heap.objs.size ∧ p ∈ b :: as ∧ SqT X.K H p (xs0 ++ (xss.take i).flatten)) ∨ s.heap.objs.size + 1 < p) ∧ ∃ (its : List Value), IsTup h p its.toArray ∧ Vals (xs0 ++ (xss.take i).flatten) its)
    ?_ ?_ ?_ ?_
  · intro h' hk
    refine ⟨hk, .inl ⟨Heap.lt_size eb, List.mem_cons_self, ?_⟩, ib, tb.keeps hk, ?_⟩
    · simpa using hb
    · simpa using rb
  · rintro i p h h' ⟨k0, hp, its, ⟨o, e, co⟩, rr⟩ hk
    refine ⟨fun c o e => hk c o (Nat.ne_of_lt (Heap.lt_size e)) (Nat.ne_of_lt (Nat.lt_succ_of_lt (Heap.lt_size e))) (k0 c o e), hp, its, ⟨o, hk p _ ?_ ?_ e, co⟩, rr⟩
    · rcases hp with ⟨hp, _⟩ | hp
      · exact Nat.ne_of_lt hp
      · exact Nat.ne_of_gt (Nat.lt_of_succ_lt hp)
    · rcases hp with ⟨hp, _⟩ | hp
      · exact Nat.ne_of_lt (Nat.lt_succ_of_lt hp)
      · exact Nat.ne_of_gt hp
  · rintro i v p s' Q' E' hv ⟨k0, hpp, its, e, rr⟩ hlt hq
    have hv' : (as.map Value.ref)[i]? = some v := by simpa using hv
    rw [List.getElem?_map] at hv'
    obtain ⟨ai, ea, rfl⟩ := Option.map_eq_some_iff.mp hv'
    obtain ⟨xs, ex, hx⟩ := Paired.getP hp ea
    obtain ⟨i2, r2, e2, _⟩ := I.tuple hx
    have ra := rr.append r2
    have ra' := ra
    rw [List.append_assoc, ← take_flat ex] at ra
    have hz2 : its.length + i2.length ≤ sizeLine := by
      rw [← List.length_append, ← ra.length, List.length_append]
      rw [List.length_append] at hz
      exact Nat.le_trans (Nat.add_le_add_left (take_flat_le xss (i + 1)) _) hz
    by_cases h0 : its = []
    · subst h0
      have z := (Vals.nil_iff rr).mp rfl
      refine cat_tup0 e (e2.keeps k0) ?_
      have alt : ai < s.heap.objs.size := let ⟨_, q, _⟩ := e2; Heap.lt_size q
      refine hq s'.heap ai (fun _ _ e => e) ⟨k0, .inl ⟨alt, List.mem_cons_of_mem _ (List.mem_of_getElem? ea), ?_⟩, i2, e2.keeps k0, ?_⟩
      · rw [take_flat ex, ← List.append_assoc, z]; exact hx
      · simpa using ra
    · refine HT.cat_tup e (e2.keeps k0) h0 (fun hw => ?_) (fun _ => ?_) hz2
      · subst hw
        have z := (Vals.nil_iff r2).mp rfl
        subst z
        rw [List.append_nil] at ra
        refine hq s'.heap p (fun _ _ e => e) ⟨k0, ?_, its, e, ra⟩
        rcases hpp with ⟨w1, w2, w3⟩ | hpp
        · exact .inl ⟨w1, w2, by rw [take_flat ex, List.append_nil]; exact w3⟩
        · exact .inr hpp
      · exact hq _ _ (fun c o e => Heap.get?_push_of_some _ e) ⟨fun c o e => Heap.get?_push_of_some _ (k0 c o e), .inr hlt, its ++ i2, ⟨_, Heap.get?_push_size _ rfl, rfl, _, rfl⟩, ra⟩
  · rintro h' tk q hk ⟨k0, hq, its, e, rr⟩
    rw [show (List.map Value.ref as).toArray.size = xss.length by rw [List.size_toArray, List.length_map, hn], List.take_length] at rr hq
    rcases hq with ⟨h0, h1, h2⟩ | hq
    · exact ⟨.ref q, H, I.kept hk, rfl, q0 q h1 fun zs hz => I.tuple_inj hz h2⟩
    · have hq' : s.heap.objs.size ≤ q := Nat.le_of_lt (Nat.lt_of_succ_lt hq)
      exact ⟨.ref q, _, I.laid (o := .tup (xs0 ++ xss.flatten)) hk hq' ⟨hz, its, rr, e⟩, rfl, q1 q (I.hok.fresh hq')⟩
end
end Ly
namespace Ly
open PySem PySem.Spec L2
open PyProof.Rows hiding St
variable [Tb]
def D.lsts : List D → Option (List (List D))
  | [] => some []
  | .l x :: r => (D.lsts r).map (x :: ·)
  | _ :: _ => none
theorem D.lsts_eq : ∀ {ds : List D} {zs : List (List D)}, D.lsts ds = some zs → ds = zs.map D.l
  | [], _, h => by cases h; rfl
  | d :: r, zs, h => by
    unfold D.lsts at h
    split at h
    · contradiction
    · rename_i x r' e1
      cases e1
      cases e : D.lsts r with
      | none => rw [e] at h; cases h
      | some ws => rw [e] at h; cases h; rw [List.map_cons, ← D.lsts_eq e]
    · cases h
theorem D.lsts_map : ∀ zs : List (List D), D.lsts (zs.map D.l) = some zs
  | [] => rfl
  | y0 :: zs => by show (D.lsts (zs.map D.l)).map (y0 :: ·) = _; rw [D.lsts_map zs]; rfl
def D.tups : List D → Option (List (List D))
  | [] => some []
  | .t x :: r => (D.tups r).map (x :: ·)
  | _ :: _ => none
theorem D.tups_eq : ∀ {ds : List D} {zs : List (List D)}, D.tups ds = some zs → ds = zs.map D.t
  | [], _, h => by cases h; rfl
  | d :: r, zs, h => by
    unfold D.tups at h
    split at h
    · contradiction
    · rename_i x r' e1
      cases e1
      cases e : D.tups r with
      | none => rw [e] at h; cases h
      | some ws => rw [e] at h; cases h; rw [List.map_cons, ← D.tups_eq e]
    · cases h
theorem D.tups_map : ∀ zs : List (List D), D.tups (zs.map D.t) = some zs
  | [] => rfl
  | y0 :: zs => by show (D.tups (zs.map D.t)).map (y0 :: ·) = _; rw [D.tups_map zs]; rfl
theorem Reps.lstsR {K : PySem.W.Frag} {G : Hp} : ∀ {vs : List V} {zs : List (List D)}, Reps K G vs (zs.map D.l) → ∃ (as : List Addr) (xss : List (List V)), vs = as.map V.ref ∧ Paired (fun p xs => G p = some (.lst xs)) as xss ∧ Reps K G xss.flatten zs.flatten
  | _, [], .nil => ⟨[], [], rfl, .nil, .nil⟩
  | _, z :: zs, .cons h r => by
    obtain ⟨as, xss, e1, e2, e3⟩ := Reps.lstsR r
    obtain ⟨a, xs, e, h1, h2⟩ := h.l_inv
    exact ⟨a :: as, xs :: xss, by rw [e, e1]; rfl, .cons h1 e2, h2.append e3⟩
theorem Reps.tupsR {K : PySem.W.Frag} {G : Hp} : ∀ {vs : List V} {zs : List (List D)}, Reps K G vs (zs.map D.t) → ∃ (as : List Addr) (xss : List (List V)), vs = as.map V.ref ∧ Paired (fun p xs => G p = some (.tup xs)) as xss ∧ Reps K G xss.flatten zs.flatten
  | _, [], .nil => ⟨[], [], rfl, .nil, .nil⟩
  | _, z :: zs, .cons h r => by
    obtain ⟨as, xss, e1, e2, e3⟩ := Reps.tupsR r
    obtain ⟨a, xs, e, h1, h2⟩ := h.t_inv
    exact ⟨a :: as, xs :: xss, by rw [e, e1]; rfl, .cons h1 e2, h2.append e3⟩
theorem PairedL.mapP {α β : Type} {F G : α → β → Prop} {l₁ : List α} {l₂ : List β} (h : Paired F l₁ l₂) (f : ∀ a b, F a b → G a b) : Paired G l₁ l₂ := Paired.mapP h f
section
variable {X : Cx} {c : LC} {a b e : Expr} {f g h : FE} {pos : Pos}
def OkC2s (c : LC) (r : List V → Hp → VK → Prop) (k : Rv → Rv → Re Rv) : Prop := ∀ (σ : St) (G1 H1 G H : Hp) (x y : V) (rx ry : Rv) (Q : VK), Gr G1 H1 G H → Same G H → Kept c.B H → RV c G H x rx → RV c G H y ry → Fresh H1 y ry → Post c (k rx ry) σ G H Q → Post c (k rx ry) σ G1 H1 Q → r [x, y] H Q
theorem tE_c2s {k : Rv → Rv → Re Rv} {r : List V → Hp → VK → Prop} (hk : OkC2s c r k) : ∀ σ H Q, tE c (e2 k f g) σ H Q → tCB r (tCons (tE c f) (tCons (tE c g) tNil)) σ H Q := by
  rintro σ H Q ⟨G, Γ, he, q⟩
  refine eE he q fun rx x G1 H1 e1 g1 v1 fr1 he1 q1 => ?_
  refine eE he1 q1 fun ry y G2 H2 e2 g2 v2 fr2 he2 q2 => ?_
  rw [e2] at q1
  exact hk σ G1 H1 G2 H2 x y rx ry Q g2 he2.gh he2.bh (v1.mono g2) v2 fr2 q2 q1
def kSumL : Rv → Rv → Re Rv := fun x y => match x.d.seq?, y with
  | some ds, .fr (.l es) => (match D.lsts ds with
    | some ess => if (es ++ ess.flatten).length ≤ sizeLine then .ok (.fr (.l (es ++ ess.flatten))) else .bad
    | none => .bad)
  | _, _ => .bad
theorem re_sumL (cy : Cy X c) {p : Pos} (hg : Gl X "sum") (hm : X.mg "sum" = none) (ha : PE X a (tE c f)) (hb : PE X b (tE c g)) (hs : starEach [a, b] X.env = (false, eval a X.env) :: starEach [b] X.env := by rfl) (hs2 : starEach [b] X.env = [(false, eval b X.env)] := by rfl)
    (hpl : (backTo pos (starEach [b] X.env)).any (·.1) = false := by rfl) : PE X (.Call (.Name "sum" p) [a, b] [] pos) (tE c (e2 kSumL f g)) := by
  refine PE.weak (pe_callB (by exact cr_sumL cy.calm) hg hm (by decide +kernel) (pa_cons ha (pa_cons hb pa_nil hs2) hs) (by decide) (by decide) hs hpl) (tE_c2s ?_)
  rw [cy.K]
  intro σ G1 H1 G H x y rx ry Q gr gh bh hx hy fr q q1
  unfold kSumL at q q1
  split at q
  · rename_i ds es e
    split at q
    · rename_i ess e2
      split at q
      · rename_i hz
        obtain ⟨p, xs, rfl, h1, h2⟩ := hx.sql gh e
        have e3 := D.lsts_eq e2
        subst e3
        obtain ⟨as, xss, rfl, h3, h4⟩ := h2.lstsR
        obtain ⟨b', rfl, n1, n2, o⟩ := id hy
        cases o with
        | l h5 h6 =>
          rename_i ys
          have r6 := h6.append h4
          refine ⟨p, b', as, ys, xss, rfl, h1, h5, Paired.mapP h3 fun a b z => gh _ _ z, by rw [r6.length]; exact hz, fun z => ?_, post_lst bh gh q r6⟩
          subst z
          cases h3
          cases ess with
          | nil =>
            rw [e] at q1
            simp only [List.map_nil, D.lsts, List.flatten_nil, List.append_nil] at q1 hz
            rw [if_pos hz] at q1
            exact q1 _ _ _ gr hy fr
          | cons z zs => cases h2
      · exact q.elim
    · exact q.elim
  · exact q.elim
def kSumT : Rv → Rv → Re Rv := fun x y => match x.d.seq?, y.d with
  | some ds, .t es => (match D.tups ds with
    | some ess => if (es ++ ess.flatten).length ≤ sizeLine then .ok (.sh (.t (es ++ ess.flatten))) else .bad
    | none => .bad)
  | _, _ => .bad
theorem re_sumT (cy : Cy X c) {p : Pos} (hg : Gl X "sum") (hm : X.mg "sum" = none) (ha : PE X a (tE c f)) (hb : PE X b (tE c g)) (hs : starEach [a, b] X.env = (false, eval a X.env) :: starEach [b] X.env := by rfl) (hs2 : starEach [b] X.env = [(false, eval b X.env)] := by rfl)
    (hpl : (backTo pos (starEach [b] X.env)).any (·.1) = false := by rfl) : PE X (.Call (.Name "sum" p) [a, b] [] pos) (tE c (e2 kSumT f g)) := by
  refine re_b2 (r := rSumT c.K) (by rw [← cy.K]; exact cr_sumT cy.calm) ?_ hg hm (by decide +kernel) ha hb (by decide) (by decide) hs hs2 hpl
  intro σ G H x y rx ry Q gh bh hx hy q
  unfold kSumT at q
  split at q
  · rename_i ds es e e'
    split at q
    · rename_i ess e2
      split at q
      · rename_i hz
        obtain ⟨p, xs, rfl, h1, h2⟩ := hx.sql gh e
        have e3 := D.tups_eq e2
        subst e3
        obtain ⟨as, xss, rfl, h3, h4⟩ := h2.tupsR
        obtain ⟨b', ys, rfl, h5, h6⟩ := hy.tup e'
        have r6 := h6.append h4
        refine ⟨p, b', as, ys, xss, rfl, h1, SqT.of (gh _ _ h5), Paired.mapP h3 fun a b z => SqT.of (gh _ _ z), by rw [r6.length]; exact hz, fun z hm ht => ?_, post_tup gh q r6⟩
        refine post_sh gh q (.t (xs := ys ++ xss.flatten) ?_ r6)
        have key : ∃ zs, G z = some (.tup zs) := by
          rcases List.mem_cons.mp hm with rfl | hm
          · exact ⟨_, h5⟩
          · obtain ⟨i, hi, ei⟩ := List.getElem_of_mem hm
            obtain ⟨zs, _, w⟩ := Paired.getP h3 (by rw [List.getElem?_eq_getElem hi, ei])
            exact ⟨zs, w⟩
        obtain ⟨zs, w⟩ := key
        have e9 : zs = ys ++ xss.flatten := ht zs (SqT.of (gh _ _ w))
        rw [← e9]; exact w
      · exact q.elim
    · exact q.elim
  · exact q.elim
end
end Ly
namespace Ly
open PySem PySem.Spec L2
open PyProof.Rows hiding St
section
variable {m : Nat} {L : Lk} {k k1 k2 k3 k4 k5 : Kd} {α β γ δ ε τ ω S : Type} {e : τ → D} {ea : α → D} {eb : β → D} {f g h : FE}
theorem er_same2 [DecidableEq α] {x y : Re α} {F : List D → Re Rv} (hk1 : k1.ok = true) (hx : ER m L k1 ea x f) (hk2 : k2.ok = true) (hy : ER m L k2 ea y g) (hF : ∀ a b : α, RE1 .sh eB (sameT ea a b) (F [ea a, ea b])) :
    ER m L .sh eB (x.bind fun a => y.bind fun b => sameT ea a b) (eCall 2 F (aCons f (aCons g aNil))) := er_call (cr_c hk1 hx fun a => cr_c hk2 hy fun b => cr_n (call_out rfl rfl (hF a b)))
@[irreducible] def flatT (A : List (List α)) (b : List α) : Re (List α) := if (b ++ A.flatten).length ≤ 16777216 then .ok (b ++ A.flatten) else .bad
theorem flatT_ok {A : List (List α)} {b : List α} (h : (b ++ A.flatten).length ≤ 16777216) : flatT A b = .ok (b ++ A.flatten) := by unfold flatT; exact if_pos h
theorem o_sumL {A : List (List α)} {b : List α} : RE1 .fr (eL ea) (flatT A b) (kSumL (k1.v (eL (eL ea) A)) (Kd.fr.v (eL ea b))) := by
  have h1 : A.map (eL ea) = (A.map fun xs => xs.map ea).map D.l := by rw [List.map_map]; rfl
  have h2 : (A.map fun xs => xs.map ea).flatten = A.flatten.map ea := by rw [List.map_flatten]
  have h3 : kSumL (k1.v (eL (eL ea) A)) (Kd.fr.v (eL ea b)) = if (b.map ea ++ (A.map fun xs => xs.map ea).flatten).length ≤ sizeLine then .ok (.fr (.l (b.map ea ++ (A.map fun xs => xs.map ea).flatten))) else .bad := by
    show kSumL (k1.v (.l (A.map (eL ea)))) (.fr (.l (b.map ea))) = _
    unfold kSumL
    rw [seq_v, h1]
    dsimp only
    rw [D.lsts_map]
  rw [h3, h2, ← List.map_append, List.length_map, sizeLine_eq]
  unfold flatT
  split
  · rfl
  · trivial
def pairF (A : List (Int × Int)) : List Int := (A.map fun p => [p.1, p.2]).flatten
@[irreducible] def pairT (A : List (Int × Int)) (b : List Int) : Re (List Int) := if (b ++ pairF A).length ≤ 16777216 then .ok (b ++ pairF A) else .bad
theorem pairT_ok {A : List (Int × Int)} {b : List Int} (h : (b ++ pairF A).length ≤ 16777216) : pairT A b = .ok (b ++ pairF A) := by unfold pairT; exact if_pos h
theorem o_sumP {A : List (Int × Int)} {b : List Int} : RE1 .sh (eTu eI) (pairT A b) (kSumT (k1.v (eL (eP2 eI eI) A)) (k2.v (eTu eI b))) := by
  have h1 : A.map (eP2 eI eI) = (A.map fun p => [eI p.1, eI p.2]).map D.t := by rw [List.map_map]; rfl
  have h2 : (A.map fun p => [eI p.1, eI p.2]).flatten = (pairF A).map eI := by
    unfold pairF
    rw [List.map_flatten, List.map_map]; rfl
  have h3 : kSumT (k1.v (eL (eP2 eI eI) A)) (k2.v (eTu eI b)) = if (b.map eI ++ (A.map fun p => [eI p.1, eI p.2]).flatten).length ≤ sizeLine then .ok (.sh (.t (b.map eI ++ (A.map fun p => [eI p.1, eI p.2]).flatten))) else .bad := by
    show kSumT (k1.v (.l (A.map (eP2 eI eI)))) (k2.v (.t (b.map eI))) = _
    unfold kSumT
    rw [seq_v, Kd.v_d, h1]
    dsimp only
    rw [D.tups_map]
  rw [h3, h2, ← List.map_append, List.length_map, sizeLine_eq]
  unfold pairT
  split
  · rfl
  · trivial
end
end Ly
end

section
set_option maxRecDepth 100000
namespace Ly
open PySem PySem.Spec L2
open PyProof.Rows hiding St
variable [Tb]
section
variable {X : Cx} {c : LC} {a b e tg : Expr} {f g h : FE} {u : FS} {pos : Pos} {body : List Stmt}
def iKeysF (td : TE) : TI := fun σ H R => td σ H fun x H1 => ∃ (d : Addr) (kvs : List (Key × V)), x = .ref d ∧ H1 d = some (.dK kvs) ∧ ∀ o, R (Itk d o kvs) (upd H1 d (.frz o (.dK kvs)))
theorem pi_keysF {td : TE} (he : PE X e td) : PI X tg e (iKeysF td) := by
  refine ⟨fun pins s σ H R I h => ?_⟩
  refine thn (he.run pins s σ H _ I h) fun w s1 ⟨x, H1, I1, rx, d, kvs, ex, hd0, q⟩ => ?_
  subst ex
  obtain rfl : w = Value.ref d := rx
  obtain ⟨od, I2⟩ := I1.lock hd0 True.intro
  have hd : upd H1 d (.frz od (.dK kvs)) d = some (.frz od (.dK kvs)) := upd_same
  obtain ⟨hs, hgd, hx, es, ep, vs, hdt, hsz, kv, hm⟩ := I2.frzK hd
  refine iter_keys hs hgd hx hdt (pi_one (tk := s1.toks) I2 _ (turn_keys _ hdt) ⟨_, Heap.get?_push_size _ rfl, rfl, ?_⟩ (q od))
  rw [hsz] <;> rfl
theorem walk_keys {K : PySem.W.Frag} {G : Hp} {d : Addr} {o : Obj} {kvs : List (Key × V)} (h : G d = some (.frz o (.dK kvs))) : WalkOk K G (Itk d o kvs) ((kvs.map (·.1)).map keyD) := by
  refine ⟨fun G1 H1 s1 s2 i y hi => ?_, fun H1 s1 i hi => ⟨s1 _ _ h, by simpa using hi⟩⟩
  rw [List.getElem?_map, List.getElem?_map] at hi
  obtain ⟨k, hk, rfl⟩ := Option.map_eq_some_iff.mp hi
  obtain ⟨⟨k', v⟩, hkv, rfl⟩ := Option.map_eq_some_iff.mp hk
  refine ⟨⟨s2 _ _ (s1 _ _ h), (List.getElem?_eq_some_iff.mp hkv).1⟩, ?_⟩
  rintro x H2 ⟨rfl, k2, v2, e2, rfl⟩
  rw [hkv] at e2
  cases e2
  refine ⟨G1, .refl s2, ?_⟩
  cases k' with
  | inl z => exact .i z
  | inr z => exact .s z
def itDk (f : FE) : FI := fun Γ => (f Γ).bind fun r => match r with
  | .fr (.dk ks _) => .ok (ks.map keyD) | _ => .bad
theorem ri_dk (ha : PE X e (tE c f)) : PI X tg e (tI c (itDk f)) := by
  refine PI.weak (pi_keysF ha) ?_
  rintro σ H R ⟨G, Γ, he, q⟩
  refine iE0 he q fun r v G1 H1 eq1 g1 v1 fr q1 => ?_
  split at q1
  · rename_i ks ds
    obtain ⟨p, rfl, bp, gp, o⟩ := v1
    obtain ⟨p', e', hp⟩ := fr
    cases e'
    cases o with
    | dk h1 h2 h3 =>
      subst h2
      refine ⟨p, _, rfl, h1, fun od => q1 _ (upd G1 p (.frz od (.dK _))) _ ⟨Kept.upd g1.hh hp, fun b x z => ?_, fun b x z => ?_, fun b x z n => ?_, fun n => (g1.gt n).upd (fun _ z => by cases z), fun t => tabs_put (g1.tb t) h1 ⟨fun _ z => (by cases z), fun _ z => (by cases z)⟩⟩ (walk_keys upd_same)⟩
      · rw [upd_ne (ne_of_none (g1.gg b x z) gp)]; exact g1.gg b x z
      · by_cases hb : b = p
        · subst hb; rw [upd_same] at z ⊢; exact z
        · rw [upd_ne hb] at z ⊢; exact g1.gh b x z
      · by_cases hb : b = p
        · subst hb; exact absurd hp n
        · rw [upd_ne hb] at z; exact g1.nw b x z n
  · exact q1.elim
def tLock0 (t : TS) : TS := fun D σ H => ∃ d u, H d = some u ∧ Mut (some u) ∧ ∀ od, t D σ (upd H d (.frz od u))
theorem ps_lock0 {st : Stmt} {t : TS} (h : PS X st t) : PS X st (tLock0 t) := by
  refine ⟨fun pins s σ H D I hw => ?_⟩
  obtain ⟨d, u, hd, mu, hw⟩ := hw
  obtain ⟨od, I1⟩ := I.lock hd mu
  exact h.run pins s σ _ _ I1 (hw od)
theorem EnvOk.lockK {G H : Hp} {σ : St} {Γ : Env'} (he : EnvOk c G H σ Γ) {i : Nat} {ks : List Key} {ds : List D} (hi : Γ[i]? = some (some (.fr (.dk ks ds)))) :
    ∃ (p : Addr) (kvs : List (Key × V)), σ[i]? = some (some (.ref p)) ∧ H p = some (.dK kvs) ∧ ks = kvs.map (·.1) ∧ G p = none ∧ ∀ od, EnvOk c (upd G p (.frz od (.dK kvs))) (upd H p (.frz od (.dK kvs))) σ (Γ.set i (some (.sh (.dk ks ds)))) := by
  obtain ⟨v, h1, ⟨p, rfl, bp, gp, o⟩, _⟩ := he.at' i _ hi
  cases o with
  | @dk kvs _ _ hp hk rs =>
    refine ⟨p, kvs, h1, hp, hk, gp, fun od => ?_⟩
    have sm : Same G (upd G p (.frz od (.dK kvs))) := fun b x q => by rw [upd_ne (ne_of_none q gp)]; exact q
    refine ⟨Kept.upd he.bh bp, he.g0.trans sm, fun b x q => ?_, fun b x q n => ?_, he.gt.upd (fun _ z => by cases z), tabs_put he.tb hp ⟨fun _ z => (by cases z), fun _ z => (by cases z)⟩, by simpa using he.len, fun j r hj => ?_, fun j k x y q hj hk sj sk => ?_⟩
    · by_cases hb : b = p
      · subst hb; rw [upd_same] at q ⊢; exact q
      · rw [upd_ne hb] at q ⊢; exact he.gh b x q
    · by_cases hb : b = p
      · subst hb; exact absurd bp n
      · rw [upd_ne hb] at q; exact he.gf b x q n
    · rcases set_get hj with ⟨rfl, rfl, hl⟩ | ⟨hne, hj⟩
      · exact ⟨.ref p, h1, Rep.dk (.inr ⟨od, upd_same⟩) hk (rs.mono sm), fun _ z => by cases z⟩
      · obtain ⟨v', h1', h2', h3'⟩ := he.at' j r hj
        refine ⟨v', h1', ?_, h3'⟩
        cases r with
        | sh d' => exact Rep.mono sm h2'
        | fr d' =>
          obtain ⟨p', rfl, bp', gp', o'⟩ := h2'
          have np : p' ≠ p := fun z => by subst z; exact hne (he.sep j i _ _ p' hj hi h1' h1)
          refine ⟨p', rfl, bp', by rw [upd_ne np]; exact gp', ?_⟩
          cases o' with
          | l w1 w2 => exact .l (by rw [upd_ne np]; exact w1) (w2.mono sm)
          | dk w1 w2 w3 => exact .dk (by rw [upd_ne np]; exact w1) w2 (w3.mono sm)
          | dt w1 w2 w3 => exact .dt (by rw [upd_ne np]; exact w1) w2 (w3.mono sm)
        | bo d' => exact absurd rfl (h3' d')
    · rcases set_get hj with ⟨_, z, _⟩ | ⟨nj, hj⟩
      · cases z
      · rcases set_get hk with ⟨_, z, _⟩ | ⟨nk, hk⟩
        · cases z
        · exact he.sep j k x y q hj hk sj sk
theorem for_loop {J : It} {ds : List D} {t : Tg} {G1 H1 : Hp} {σ : St} {Γ : Env'} {D : Ends} (he : EnvOk c G1 H1 σ Γ) (w : WalkOk c.K G1 J ds) (q : PostS c (forL t u ds Γ) G1 D) :
    ∃ W : Nat → Nat → St → Hp → Prop, (∃ m, W 0 m σ H1) ∧ ∀ i m σ H, W i m σ H → (J.stop i H ∧ D.nx σ H) ∨ (J.go i H ∧ ∃ N : St → Hp → Prop, (∀ σ' H', N σ' H' → ∃ m', m' < m ∧ W (i + 1) m' σ' H') ∧
      ∀ x H', J.yld i H x H' → t.tgt c.K x σ H' fun σ2 H2 => tS c u { D with nx := N, ct := N, bk := D.nx } σ2 H2) := by
  refine ⟨fun i m σ' H' => m = ds.length - i ∧ i ≤ ds.length ∧ ∃ Gi Γi, EnvOk c Gi H' σ' Γi ∧ Same G1 Gi ∧ PostS c (forL t u (ds.drop i) Γi) Gi D,
    ⟨ds.length, by simp, Nat.zero_le _, G1, Γ, he, Same.refl _, q⟩, ?_⟩
  rintro i m σ' H' ⟨rfl, hi, Gi, Γi, hei, si, qi⟩
  by_cases hl : i < ds.length
  · obtain ⟨d, hd⟩ : ∃ d, ds[i]? = some d := ⟨ds[i], by simp [hl]⟩
    have hdrop : ds.drop i = d :: ds.drop (i + 1) := by
      rw [List.drop_eq_getElem_cons hl]
      congr 1
      simpa [hl] using hd
    rw [hdrop] at qi
    obtain ⟨go, yl⟩ := w.go Gi H' si hei.gh i d hd
    refine .inr ⟨go, fun σ'' H'' => ∃ Gj Γj, EnvOk c Gj H'' σ'' Γj ∧ Same G1 Gj ∧ PostS c (forL t u (ds.drop (i + 1)) Γj) Gj D,
      fun σ'' H'' ⟨Gj, Γj, hej, sj, qj⟩ => ⟨ds.length - (i + 1), by omega, rfl, hl, Gj, Γj, hej, sj, qj⟩, fun x H2 hy => ?_⟩
    obtain ⟨G2, g2, r2⟩ := yl x H2 hy
    have he2 := hei.mono g2
    unfold forL at qi
    cases et : t.set d Γi with
    | none => rw [et] at qi; exact qi.elim
    | some Γ1 =>
      rw [et] at qi
      refine Tg.ok he2 r2 et fun σ2 he3 _ => ⟨G2, Γ1, he3, ?_⟩
      have s2 : Same G1 G2 := si.trans g2.gg
      have qi : PostS c (match u Γ1 with | .nx Γ' => forL t u (ds.drop (i + 1)) Γ' | .ct Γ' => forL t u (ds.drop (i + 1)) Γ' | .bk Γ' => .nx Γ' | .rt r => .rt r | .ex e Γ' => .ex e Γ' | .bad => .bad) G2 D := PostS.later g2.gg qi
      cases eu : u Γ1 with
      | nx Γ' => rw [eu] at qi; exact fun σ3 G3 H3 he4 s3 => ⟨G3, Γ', he4, s2.trans s3, PostS.later s3 qi⟩
      | ct Γ' => rw [eu] at qi; exact fun σ3 G3 H3 he4 s3 => ⟨G3, Γ', he4, s2.trans s3, PostS.later s3 qi⟩
      | bk Γ' => rw [eu] at qi; exact qi
      | rt r => rw [eu] at qi; exact qi
      | ex x Γ' => rw [eu] at qi; exact qi
      | bad => rw [eu] at qi; exact qi
  · have ei : i = ds.length := by omega
    subst ei
    refine .inl ⟨w.stop H' (si.trans hei.gh) _ (Nat.le_refl _), ?_⟩
    rw [List.drop_length] at qi
    exact qi σ' Gi H' hei (Same.refl _)
def sForK (i : Nat) (t : Tg) (u : FS) : FS := fun Γ => match Γ[i]? with
  | some (some (.fr (.dk ks ds))) => forL t u (ks.map keyD) (Γ.set i (some (.sh (.dk ks ds))))
  | _ => .bad
theorem rs_forK (hp : PassesOwn (model X.prog X.w) X.A X.env X.xe) (cy : Cy X c) {i : Nat} {x : Str} {p' : Pos} {t : Tg} (hN : X.N[i]? = some x) (hv : Vis X.env.scope x) (hg : PG X tg (t.tgt c.K)) (hb : PSs X body (tS c u))
    (hd : (x == ("__debug__" : Str)) = false := by decide) (hcd : (x == ("__classdict__" : Str)) = false := by decide)
    (hs : ∀ y, foldedSetIterable (.Name x p') X.env y = pure y := by intro _; rfl) : PS X (.For tg (.Name x p') body [] pos) (tS c (sForK i t u)) := by
  have h1 : PS X (.For tg (.Name x p') body [] pos) (tFor (iKeys (tVar i)) (t.tgt c.K) (tS c u)) := ps_for hp cy.calm (pi_keys (pe_var hN hv hd hcd)) hg hb hs
  refine PS.weak (ps_lock0 h1) ?_
  rintro D σ H ⟨G, Γ, he, q⟩
  unfold sForK at q
  split at q
  · rename_i ks ds hi
    obtain ⟨p, kvs, e1, e2, e3, e4, e5⟩ := he.lockK hi
    subst e3
    refine ⟨p, _, e2, True.intro, fun od => ⟨.ref p, e1, p, od, rfl, .inl ⟨kvs, upd_same, ?_⟩⟩⟩
    exact for_loop (e5 od) (walk_keys upd_same) (PostS.later (fun b x z => by rw [upd_ne (ne_of_none z e4)]; exact z) q)
  · exact q.elim
end
end Ly
namespace Ly
open PySem PySem.Spec L2
open PyProof.Rows hiding St
section
variable {m : Nat} {L : Lk} {k k1 k2 k3 k4 k5 : Kd} {α β γ δ ε τ ω S : Type} {e : τ → D} {ea : α → D} {eb : β → D} {f g h : FE} {u w : FS} {P : ω → Fl → Prop} {i : Nat} {t : Tg}
def fiC (ds : List D) : FI := fun _ => .ok ds
theorem ir_c {as : List Int} : IR m L eI (.ok as) (fiC (as.map eI)) := fun _ _ => rfl
theorem keys_map (A : List (Int × α)) : (A.map fun p => (.inl p.1 : Key)).map keyD = (A.map fun p => p.1).map eI := by rw [List.map_map, List.map_map]; rfl
theorem ir_dk {x : Re (List (Int × α))} (hx : ER m L .fr (eDk ea) x f) : IR m L eI (x.bind fun A => .ok (A.map fun p => p.1)) (itDk f) := fun Γ hΓ => by
  have h1 := hx Γ hΓ
  unfold itDk
  cases x with
  | ok A =>
    have h1 : f Γ = .ok _ := h1
    rw [h1]
    show Re.ok ((A.map fun p => (.inl p.1 : Key)).map keyD) = _
    rw [keys_map]
  | ex z => have h1 : f Γ = .ex z := h1; rw [h1]; rfl
  | bad => trivial
theorem bg_forKS {A : List (Int × α)} {T : Re ω} (hl : lk i L = some (.fr (eDk ea A))) (h : BG m (frzL i L) P T (sSeq (sFor (fiC ((A.map fun p => p.1).map eI)) t u) w)) : BG m L P T (sSeq (sForK i t u) w) := fun Γ hΓ => by
  have h1 := h _ (hΓ.frz i)
  have h2 := hΓ.at' i _ hl
  have e1 : sForK i t u Γ = sFor (fiC ((A.map fun p => p.1).map eI)) t u (frz i Γ) := by
    unfold sForK frz
    rw [h2]
    show forL t u ((A.map fun p => (.inl p.1 : Key)).map keyD) _ = _
    rw [keys_map]
    rfl
  have e2 : sSeq (sForK i t u) w Γ = sSeq (sFor (fiC ((A.map fun p => p.1).map eI)) t u) w (frz i Γ) := by
    show (match sForK i t u Γ with | .nx Γ' => w Γ' | o => o) = (match sFor (fiC ((A.map fun p => p.1).map eI)) t u (frz i Γ) with | .nx Γ' => w Γ' | o => o)
    rw [e1]
  rw [e2]; exact h1
def sBad : FS := fun _ => .bad
end
section
variable {X : Cx} {c : LC}
theorem rs_bad {st : Stmt} : PS X st (tS c sBad) := ⟨fun pins s σ H D I ⟨G, Γ, he, q⟩ => q.elim⟩
end
section
variable {m : Nat} {L : Lk} {ω : Type} {P : ω → Fl → Prop}
theorem bg_sbad {u : FS} : BG m L P (.bad : Re ω) u := fun _ _ => trivial
end
end Ly
namespace Ly
open PySem PySem.Spec L2
open PyProof.Rows hiding St
section
variable {m : Nat} {L : Lk} {k k1 k2 k3 k4 k5 : Kd} {α β γ δ ε τ ω S : Type} {e : τ → D} {ea : α → D} {eb : β → D} {f g h : FE}
structure EqJ (e : α → D) : Prop where
  eq : ∀ a b, deq (e a) (e b) = true ↔ a = b
theorem eqjI : EqJ eI := ⟨(eqI 1).eq⟩
theorem eqjB : EqJ eB := ⟨(eqB 1).eq⟩
theorem eqjS : EqJ eS := ⟨fun a b => by show deq (.s a) (.s b) = true ↔ _; rw [deq_s]; simp⟩
theorem eqj_pys (h : EqJ ea) : ∀ (xs ys : List α), PyData.eqvAll (D.pys (xs.map ea)) (D.pys (ys.map ea)) = true ↔ xs = ys
  | [], [] => by simp [D.pys, PyData.eqvAll]
  | [], _ :: _ => by simp [D.pys, PyData.eqvAll]
  | _ :: _, [] => by simp [D.pys, PyData.eqvAll]
  | x :: xs, y :: ys => by
    rw [List.map_cons, List.map_cons, D.pys, D.pys, PyData.eqvAll, Bool.and_eq_true, eqj_pys h xs ys]
    have := h.eq x y
    unfold deq at this
    rw [this]
    simp
theorem eqjL (h : EqJ ea) : EqJ (eL ea) := ⟨fun a b => by
    show PyData.eqv (D.py (.l (a.map ea))) (D.py (.l (b.map ea))) = true ↔ _
    rw [D.py, D.py, PyData.eqv]
    exact eqj_pys h a b⟩
theorem eqjT (h : EqJ ea) : EqJ (eTu ea) := ⟨fun a b => by
    show PyData.eqv (D.py (.t (a.map ea))) (D.py (.t (b.map ea))) = true ↔ _
    rw [D.py, D.py, PyData.eqv]
    exact eqj_pys h a b⟩
theorem eqjP2 (h1 : EqJ ea) (h2 : EqJ eb) : EqJ (eP2 ea eb) := ⟨fun a b => by
    have e1 := h1.eq a.1 b.1
    have e2 := h2.eq a.2 b.2
    unfold deq at e1 e2
    show PyData.eqv (D.py (.t [ea a.1, eb a.2])) (D.py (.t [ea b.1, eb b.2])) = true ↔ _
    rw [D.py, D.py, PyData.eqv, D.pys, D.pys, D.pys, D.pys, D.pys, D.pys, PyData.eqvAll, PyData.eqvAll, PyData.eqvAll, Bool.and_eq_true, Bool.and_eq_true, e1, e2]
    constructor
    · rintro ⟨h1, h2, _⟩; exact Prod.ext h1 h2
    · rintro rfl; exact ⟨rfl, rfl, rfl⟩⟩
theorem eqjC : EqJ eCl := ⟨fun a b => by
    have e1 := eqjS.eq a.1 b.1
    have e2 := eqj_pys eqjI a.2 b.2
    unfold deq at e1
    show PyData.eqv (D.py (.t (.s a.1 :: a.2.map .i))) (D.py (.t (.s b.1 :: b.2.map .i))) = true ↔ _
    rw [D.py, D.py, PyData.eqv, D.pys, D.pys, PyData.eqvAll, Bool.and_eq_true, e1, e2]
    constructor
    · rintro ⟨h1, h2⟩; exact Prod.ext h1 h2
    · rintro rfl; exact ⟨rfl, rfl⟩⟩
@[irreducible] def equT [DecidableEq α] (ea : α → D) (a b : α) : Re Bool := if dok 12 (ea a) = true ∧ dok 12 (ea b) = true then .ok (decide (a = b)) else .bad
@[irreducible] def nequT [DecidableEq α] (ea : α → D) (a b : α) : Re Bool := if dok 12 (ea a) = true ∧ dok 12 (ea b) = true then .ok (!decide (a = b)) else .bad
theorem equT_ok [DecidableEq α] {a b : α} (h1 : dok 12 (ea a) = true) (h2 : dok 12 (ea b) = true) : equT ea a b = .ok (decide (a = b)) := by unfold equT; exact if_pos ⟨h1, h2⟩
theorem nequT_ok [DecidableEq α] {a b : α} (h1 : dok 12 (ea a) = true) (h2 : dok 12 (ea b) = true) : nequT ea a b = .ok (!decide (a = b)) := by unfold nequT; exact if_pos ⟨h1, h2⟩
theorem o_eqj [DecidableEq α] (h : EqJ ea) {a b : α} : RE1 .sh eB (equT ea a b) (kEq (k1.v (ea a)) (k2.v (ea b))) := by
  unfold equT
  split
  · rename_i hd
    show kEq _ _ = .ok (.sh (.b (decide (a = b))))
    unfold kEq
    rw [Kd.v_d, Kd.v_d, if_pos hd]
    show okb (deq (ea a) (ea b)) = _
    have := h.eq a b
    by_cases hab : a = b
    · rw [this.mpr hab, decide_eq_true hab]; rfl
    · have : deq (ea a) (ea b) = false := by rw [← Bool.not_eq_true]; exact fun e => hab (this.mp e)
      rw [this, decide_eq_false hab]; rfl
  · trivial
theorem o_nej [DecidableEq α] (h : EqJ ea) {a b : α} : RE1 .sh eB (nequT ea a b) (kNe (k1.v (ea a)) (k2.v (ea b))) := by
  unfold nequT
  split
  · rename_i hd
    show kNe _ _ = .ok (.sh (.b (!decide (a = b))))
    unfold kNe
    rw [Kd.v_d, Kd.v_d, if_pos hd]
    show okb (!deq (ea a) (ea b)) = _
    have := h.eq a b
    by_cases hab : a = b
    · rw [this.mpr hab, decide_eq_true hab]; rfl
    · have : deq (ea a) (ea b) = false := by rw [← Bool.not_eq_true]; exact fun e => hab (this.mp e)
      rw [this, decide_eq_false hab]; rfl
  · trivial
end
end Ly
end

section
set_option maxRecDepth 100000
namespace SumG
open PySem PySem.Spec PyProof.Rows
section
variable {prog : Program} {w : World} {A : Around} {E : Value → Shared → Prop} {s : Shared}
theorem call_treeK {id : String} {b : Builtin} {args : List Value} {kw : List (Str × Value)} {Q : Value → Shared → Prop} (hk : builtinKind id = none) (hp : plainId id = true) (hb : entryFor table id = some b) (ha : argsOk id ⟨args, kw⟩)
    (hc : wpAny (model prog w) A.in1 (b ⟨args, kw⟩) (fun fin s' => match fin with
      | .done f => (match (Except.ok f : Result) with | .ok (.ret v) => Q v s' | .ok _ => False | .error e => E e s')
      | .again c' => c'.quiet = true ∧ codeAny (model prog w) A c' (fun r s' => match r with | .ok (.ret v) => Q v s' | .ok _ => False | .error e => E e s') s') E s) :
    wpAny (model prog w) A (call (.builtin id) args kw) Q E s := by
  refine wpAny_call (codeAny_call_builtin hp hb ?_)
  simp only [checkBuiltinCall, hk]
  cases hsig : Manifest.signature? id with
  | none => exact wpAny_pure hc
  | some sig =>
    have ha' : Bind.checkArgs id sig ⟨args, kw⟩ = pure () := by simpa only [argsOk, hsig] using ha
    simp only [ha']
    exact wpAny_pure hc
theorem args_sumK (a b : Value) : argsOk "sum" ⟨[a], [(Str.ofString "start", b)]⟩ := by unfold argsOk; kernel_rfl
theorem call_sum0 {l : Addr} {xs : Array (Int × Tok)} {tk0 : Tok} {Q : Value → Shared → Prop} (hh : A.handled = none) (hl : s.heap.IsList l (intItems xs))
    (h : ∀ h' tk t', (∀ b o, s.heap.get? b = some o → h'.get? b = some o) → Q (.int (preSum (numAt xs) xs.size) t') { s with heap := h', toks := tk }) :
    wpAny (model prog w) A (call (.builtin "sum") [.ref l] [(Str.ofString "start", .int 0 tk0)]) Q E s := by
  refine call_treeK F.kind_sum F.plain_sum F.entry_sum (args_sumK _ _) ?_
  unfold Builtin.«sum»
  simp only [List.length_cons, List.length_nil]
  rw [if_neg (by decide)]
  refine wpAny_bind (wpAny_of_eq (show Builtin.Builtins.bindParams "sum" ["start"] 0 ⟨[], [(Str.ofString "start", .int 0 tk0)]⟩ = pure [some (.int 0 tk0)] from rfl) ?_)
  refine wpAny_bind (iter_intList hl fun s₂ e st hfp hlI => ?_)
  have W := Walks.list (prog := prog) (w := w) (A := A.in1) hh s.heap.objs.size l hlI (intItems xs)
  have hsz : (intItems xs).size = xs.size := by simp [intItems]
  rw [hsz] at W
  refine wpAny_bind ?_
  refine wpAny_rule ?_
  refine wpAny_bind (wpAny_mkInt ?_)
  refine wpAny_bind (wpAny_pure ?_)
  simp only [List.forIn_cons, List.forIn_nil]
  refine wpAny_bind (wpAny_bind (wpAny_bind (wpAny_isInstance (T := "int") (b := false) (typeIs_int _ _ _) PySem.sub_int_str ?_)))
  simp only [Bool.false_eq_true, if_false]
  refine wpAny_pure (wpAny_bind (wpAny_bind (wpAny_isInstance (T := "int") (b := false) (typeIs_int _ _ _) PySem.sub_int_bytes ?_)))
  simp only [Bool.false_eq_true, if_false]
  refine wpAny_pure (wpAny_bind (wpAny_bind (wpAny_isInstance (T := "int") (b := false) (typeIs_int _ _ _) PySem.sub_int_bytearray ?_)))
  simp only [Bool.false_eq_true, if_false]
  refine wpAny_pure (wpAny_pure ?_)
  refine wpAny_bind (wpAny_newObj_type ?_)
  have hSf : s₂.heap.objs.size ∉ [s.heap.objs.size, l] := fun hm => Nat.lt_irrefl _ (hfp _ hm)
  refine wpAny_pure ⟨plainId_quiet F.plain_sum_loop _, codeAny_sum_loopG W (numAt xs) (fun _ _ => intItems_at) s₂.heap.objs.size hSf xs.size 0 _ s₂.toks 0 0 (Or.inl rfl) rfl (Nat.zero_le _)
    (W.frame _ _ _ st fun b _ o e => Heap.get?_push_of_some _ e) (Heap.get?_push_size _ rfl) fun h' tk t' hk => ?_⟩
  subst e
  exact h h' tk t' (old_kept fun b o hb e => hk b o hb (Nat.ne_of_lt (Heap.lt_size e)) (Heap.get?_push_of_some _ e))
end
end SumG
namespace Ly
open PySem PySem.Spec L2
open PyProof.Rows hiding St
variable [Tb]
def rSum0 (K : PySem.W.Frag) : List V → List V → Hp → VK → Prop := fun vs zs H Q => ∃ (a : Addr) (ns : List Int), vs = [V.ref a] ∧ zs = [V.int 0] ∧ SqL K H a (ns.map V.int) ∧ Q (.int ns.sum) H
section
variable {X : Cx} {c : LC} {a b e tg : Expr} {f g h : FE} {pos : Pos}
theorem cr_sum0 (hc : X.calm = true) : CallRK X (.builtin "sum") [Str.ofString "start"] (rSum0 X.K) := by
  intro pins s σ H vs zs us ws Q I r rz h
  obtain ⟨a, ns, rfl, rfl, hs, q⟩ := h
  obtain ⟨its, rv, hl, _⟩ := I.list hs
  obtain rfl := Vals.ref1 r
  obtain ⟨w1, rfl, t, rfl⟩ := vals1 rz
  have hi : IntsAre its ns := rv.ints
  obtain ⟨xs, e⟩ := hi.allInts.items
  have hn : numsOf (intItems xs).toList = ns := by rw [← e]; exact hi.numsOf
  rw [nums_intItems] at hn
  have hl' := hl.isList
  rw [e] at hl'
  refine SumG.call_sum0 (I.ok.hd hc) hl' fun h' tk t' hk => ⟨.int _, H, I.kept hk, ⟨t', ?_⟩, q⟩
  rw [preSum_eq, List.take_of_length_le (by simp), hn]
theorem re_sum0 (cy : Cy X c) {p p2 kp : Pos} {j : Nat} (hg : Gl X "sum") (hm : X.mg "sum" = none) (ha : PE X a (tE c f)) (he : backTo pos (starEach [a] X.env) = (false, eval a X.env) :: backTo pos (starEach [] X.env) := by rfl) (hpl : (backTo pos (starEach [a] X.env)).any (·.1) = false := by rfl)
    (hall : (backToKw pos (keywordEach [⟨some "start", .Constant (.int 0) j p2, kp⟩] X.env)).all (·.1.isSome) = true := by rfl) (hnone : (backToKw pos (keywordEach [⟨some "start", .Constant (.int 0) j p2, kp⟩] X.env)).any (·.1.isNone) = false := by rfl)
    (hks : (backToKw pos (keywordEach [⟨some "start", .Constant (.int 0) j p2, kp⟩] X.env)).filterMap (·.1) = [Str.ofString "start"] := by rfl) (hs : starEach [a] X.env = [(false, eval a X.env)] := by rfl) :
    PE X (.Call (.Name "sum" p) [a] [⟨some "start", .Constant (.int 0) j p2, kp⟩] pos) (tE c (e1 kSum f)) := by
  refine PE.weak (pe_callBK (cr_sum0 cy.calm) hg hm (by decide +kernel) (pa_cons ha pa_nil hs) (pk_cons pe_int pk_nil) (by decide) (by decide) he hpl hall hnone hks) ?_
  rintro σ H Q ⟨G, Γ, he, q⟩
  refine eE he q fun rx x G1 H1 _ g1 v1 fr1 he1 q1 => ?_
  rw [cy.K]
  unfold kSum at q1
  split at q1
  · rename_i ds e
    split at q1
    · rename_i bs eb
      obtain ⟨p, xs, rfl, e2, e3⟩ := v1.sql he1.gh e
      rw [D.ints_eq eb] at e3
      rw [e3.ints] at e2
      exact ⟨p, bs, rfl, rfl, e2, post_sh he1.gh q1 (.i _)⟩
    · exact q1.elim
  · exact q1.elim
def itRev (f : FE) : FI := fun Γ => (f Γ).bind fun r => (share r).bind fun d => match d.seq? with
  | some ds => .ok ds.reverse | none => .bad
theorem walk_rev {K : PySem.W.Frag} {G : Hp} {a : Addr} {xs : List V} {ds : List D} (h : SqL K G a xs) (r : Reps K G xs ds) : WalkOk K G (Itv K a xs.length) ds.reverse := by
  have hlen := r.length
  refine ⟨fun G1 H1 s1 s2 i d hi => ?_, fun H1 s1 i hi => by rw [List.length_reverse] at hi; show xs.length ≤ i; omega⟩
  have hil : i < ds.length := by
    rcases Nat.lt_or_ge i ds.length with h | h
    · exact h
    · rw [List.getElem?_eq_none (by simpa using h)] at hi; cases hi
  rw [List.getElem?_reverse hil] at hi
  obtain ⟨v, hv, rv⟩ := r.get' hi
  rw [← hlen] at hv
  have h1 := s2.seq (s1.seq h)
  refine ⟨⟨by omega, xs, v, h1, hv⟩, ?_⟩
  rintro x H2 ⟨rfl, hx⟩
  have e := hx xs h1
  rw [hv] at e
  cases e
  exact ⟨G1, .refl s2, rv.mono s1⟩
theorem ri_rev (cy : Cy X c) {p : Pos} (hg : Gl X "reversed") (hm : X.mg "reversed" = none) (ha : PE X e (tE c f)) (hs : starEach [e] X.env = [(false, eval e X.env)] := by rfl) : PI X tg (.Call (.Name "reversed" p) [e] [] pos) (tI c (itRev f)) := by
  refine PI.weak (pi_reversed hg hm (pa_cons ha pa_nil hs) hs) ?_
  rintro σ H R ⟨G, Γ, he, q⟩
  refine iE0 he q fun r v G1 H1 eq1 g1 v1 fr q1 => ?_
  cases e1 : share r with
  | bad => rw [e1] at q1; exact q1.elim
  | ex x => cases r <;> cases e1
  | ok d =>
    rw [e1] at q1
    obtain ⟨G2, g2, s2, rp⟩ := v1.share g1 fr e1
    simp only [Re.bind_ok] at q1
    rw [cy.K]
    cases d with
    | l ds =>
      obtain ⟨a, xs, rfl, h1, h2⟩ := rp.l_inv
      exact ⟨a, xs, rfl, .of (g2.gh _ _ h1), q1 _ _ _ g2 (walk_rev (.of h1) h2)⟩
    | z ds =>
      obtain ⟨a, xs, rfl, h1, h2⟩ := rp.z_inv
      exact ⟨a, xs, rfl, g2.gh.seq h1, q1 _ _ _ g2 (walk_rev h1 h2)⟩
    | _ => exact q1.elim
end
section
variable {m : Nat} {L : Lk} {k k1 k2 k3 k4 k5 : Kd} {α β γ δ ε τ ω S : Type} {e : τ → D} {ea : α → D} {eb : β → D} {f g h : FE}
theorem ir_rev {x : Re (List τ)} (hk : k1.ok = true) (hx : ER m L k1 (eL e) x f) : IR m L e (x.bind fun xs => .ok xs.reverse) (itRev f) := fun Γ hΓ => by
  have h1 := hx Γ hΓ
  unfold itRev
  cases x with
  | ok a =>
    have h1 : f Γ = .ok _ := h1
    rw [h1]
    cases k1 <;> first | (show Re.ok (List.map e a).reverse = Re.ok (List.map e a.reverse); rw [List.map_reverse]) | cases hk
  | ex z => have h1 : f Γ = .ex z := h1; rw [h1]; rfl
  | bad => trivial
theorem o_isU {a b : Unit} : RE1 .sh eB (.ok true) (kIs false (Kd.sh.v (eU a)) (Kd.sh.v (eU b))) := rfl
theorem o_notU {a b : Unit} : RE1 .sh eB (.ok false) (kIs true (Kd.sh.v (eU a)) (Kd.sh.v (eU b))) := rfl
theorem bg_weak {P : ω → Fl → Prop} {T : Re ω} {u : FS} {L' : Lk} (hs : subL L' L) (h : BG m L' P T u) : BG m L P T u := fun Γ hΓ => h Γ (hΓ.sub hs)
@[irreducible] def ixsT (x : Str) (k : Int) : Re Str := if x.length ≤ 16777216 then (match L2.atI x.cps.toList k with | some ch => .ok ⟨#[ch]⟩ | none => .bad) else .bad
theorem ixsT_ok {x : Str} {k : Int} {ch : Nat} (h : x.length ≤ 16777216) (h2 : L2.atI x.cps.toList k = some ch) : ixsT x k = .ok ⟨#[ch]⟩ := by unfold ixsT; rw [if_pos h, h2]
theorem o_ixs {x : Str} {n : Int} : RE1 .sh eS (ixsT x n) (kIx (k1.v (eS x)) (k2.v (eI n))) := by
  have : kIx (k1.v (eS x)) (k2.v (eI n)) = if x.length ≤ 16777216 then (match L2.atI x.cps.toList n with | some ch => .ok (.sh (.s ⟨#[ch]⟩)) | none => .bad) else .bad := by cases k1 <;> cases k2 <;> rfl
  rw [this]
  unfold ixsT
  split
  · split
    · rfl
    · trivial
  · trivial
end
end Ly
end

section
set_option maxRecDepth 100000
set_option maxHeartbeats 1000000
namespace ZipS
open PySem PySem.Spec PyProof.Rows
open Sem (wp)
def zo (f TI TO : Value) : Obj := { cls := .type "zip", dict := none, data := .fields #[f, .bool false, .bool true, TI, TO], slots := #[] }
def two (a b : Value) : Obj := { cls := .type "tuple", data := .seq #[a, b] }
def li (l : Addr) : Obj := { cls := .type "list_iterator", data := .fields #[.ref l, .int 0 0] }
def n1 (h : Heap) (l1 : Addr) : Heap := h.push (li l1)
def n2 (h : Heap) (l1 l2 : Addr) : Heap := (n1 h l1).push (li l2)
def n3 (h : Heap) (l1 l2 : Addr) : Heap := (n2 h l1 l2).push (two (.ref h.objs.size) (.ref (n1 h l1).objs.size))
def n4 (h : Heap) (l1 l2 : Addr) : Heap := (n3 h l1 l2).push (two .none .none)
def n5 (h : Heap) (l1 l2 : Addr) : Heap := (n4 h l1 l2).push (zo .none (.ref (n2 h l1 l2).objs.size) (.ref (n3 h l1 l2).objs.size))
theorem tc (a b c : Value) : checkTypeCall "zip" ⟨[a, b], [(Str.ofString "strict", c)]⟩ = pure () := by kernel_rfl
theorem nc (a b c : Value) : checkBuiltinCall "zip.__new__" ⟨[.type "zip", a, b], [(Str.ofString "strict", c)]⟩ = pure () := by kernel_rfl
theorem ok3 (o a b c : Value) : argsOk "object.__init__" ⟨[o, a, b], [(Str.ofString "strict", c)]⟩ := by unfold argsOk; kernel_rfl
theorem made (l1 l2 : Addr) (xs ys : Array Value) : Meets (Builtin.«zip.__new__» ⟨[.type "zip", .ref l1, .ref l2], [(Str.ofString "strict", .bool true)]⟩)
    (fun _ R s => s.heap.IsList l1 xs ∧ s.heap.IsList l2 ys ∧ R (.ok (.ret (.ref (n4 s.heap l1 l2).objs.size))) { s with heap := n5 s.heap l1 l2 }) :=
  .of_wp fun prog w A R ⟨hp, g, d, tk, os⟩ ⟨h1, h2, h⟩ => by
    have hsub := sub_zip
    have k1 : Heap.IsList (Shared.heap ⟨hp, g, d, tk, os⟩) l1 xs := h1
    have k2 : Heap.IsList (Shared.heap ⟨n1 hp l1, g, d, tk, os⟩) l2 ys := Heap.IsList.push h2 _
    have e1 : (Str.ofString "strict" == ("strict" : Str)) = true := by decide +kernel
    have e2 : (Str.ofString "strict" != ("strict" : Str)) = false := by decide +kernel
    unfold n1 li at k2
    unfold n5 n4 n3 n2 n1 zo two li at h
    wp_walk using wpAny_pyIter_list k1, wpAny_pyIter_list k2
    exact ⟨_, rfl, h⟩
end ZipS
end

section
set_option maxRecDepth 100000
set_option maxHeartbeats 1000000
namespace ZipS
open PySem PySem.Spec PyProof.Rows
open Sem (wp)
structure At (h : Heap) (z TI TO i1 i2 l1 l2 : Addr) (f : Value) (k : Nat) : Prop where
  z : h.get? z = some (zo f (.ref TI) (.ref TO))
  ti : h.get? TI = some (two (.ref i1) (.ref i2))
  to : ∃ a b, h.get? TO = some (two a b)
  i1 : h.IsListIter i1 l1 k
  i2 : h.IsListIter i2 l2 k
section
variable {prog : Program} {w : World} {A : Around} {E : Value → Shared → Prop} {s : Shared} {z TI TO i1 i2 l1 l2 : Addr} {k : Nat} {xs ys : Array Value}
theorem orEnd {it : Value} {Q : Option Value → Shared → Prop} (h : wpAny (model prog w) A (Builtin.SmallTypes.nextOf it) (fun v s' => Q (some v) s') (fun e s' => (∃ a o, e = .ref a ∧ s'.heap.get? a = some o ∧ o.cls = .type "StopIteration") ∧ Q none s') s) :
    wpAny (model prog w) A (Builtin.SmallTypes.nextOrEnd it) Q E s := by
  unfold Builtin.SmallTypes.nextOrEnd
  refine wpAny_bind (wpAny_attempt (wpAny_mono h (fun v s' q => wpAny_pure q) fun e s' q => ?_))
  obtain ⟨⟨a, o, rfl, e1, e2⟩, q⟩ := q
  exact wpAny_bind (wpAny_isInstance (T := "StopIteration") (b := true) ⟨o, e1, e2⟩ isSubtype_stop (wpAny_pure q))
theorem itemOf {it l : Addr} {v : Value} {ws : Array Value} {Q : Option Value → Shared → Prop} (hi : s.heap.IsListIter it l k) (hl : s.heap.IsList l ws) (e : ws[k]? = some v)
    (hQ : ∀ h', h'.IsListIter it l (k + 1) → Heap.SameBut it s.heap h' → Q (some v) { s with heap := h' }) : wpAny (model prog w) A (Builtin.SmallTypes.nextOrEnd (.ref it)) Q E s :=
  orEnd (wpAny_nextOf_list_item hi hl e hQ)
theorem endOf {it l : Addr} {ws : Array Value} {Q : Option Value → Shared → Prop} (hh : A.handled = none) (hi : s.heap.IsListIter it l k) (hl : s.heap.IsList l ws) (e : ws[k]? = none)
    (hQ : ∀ h', Heap.ExtBut it s.heap h' → Q none { s with heap := h' }) : wpAny (model prog w) A (Builtin.SmallTypes.nextOrEnd (.ref it)) Q E s :=
  orEnd (wpAny_nextOf_list_end hh hi hl e fun h' a x ⟨o, e1, e2⟩ => ⟨⟨a, o, rfl, e1, e2⟩, hQ h' x⟩)
theorem setF {h : Shared} {f v TI' TO' : Value} {Q : Unit → Shared → Prop} (hz : h.heap.get? z = some (zo f TI' TO')) (q : ∀ h', h'.get? z = some (zo v TI' TO') → Heap.SameBut z h.heap h' → Q () { h with heap := h' }) :
    wpAny (model prog w) A (setField (.ref z) 0 v) Q E h := by
  refine wpAny_setField_rec hz (by simp) fun h' e sb => q h' ?_ sb
  rw [e]; rfl
theorem setF1 {h : Shared} {f TI' TO' : Value} {Q : Unit → Shared → Prop} (hz : h.heap.get? z = some (zo f TI' TO')) (q : ∀ h', h'.get? z = some (zo f TI' TO') → Heap.SameBut z h.heap h' → Q () { h with heap := h' }) :
    wpAny (model prog w) A (setField (.ref z) 1 (.bool false)) Q E h := by
  refine wpAny_setField_rec hz (by simp) fun h' e sb => q h' ?_ sb
  rw [e]; rfl
theorem setT {h : Shared} {a b v : Value} {j : Nat} {Q : Unit → Shared → Prop} (hT : h.heap.get? TO = some (two a b)) (q : ∀ h', (∃ a' b', h'.get? TO = some (two a' b') ∧ (j = 0 → v = a' ∧ b = b') ∧ (j = 1 → a = a' ∧ v = b')) → Heap.SameBut TO h.heap h' → Q () { h with heap := h' }) :
    wpAny (model prog w) A (updateSeq TO (·.setIfInBounds j v)) Q E h := by
  refine wpAny_updateSeq hT rfl (q _ ?_ (Heap.SameBut.update ..))
  rw [Heap.get?_update_self _ hT rfl]
  match j with
  | 0 => exact ⟨v, b, rfl, (fun _ => ⟨rfl, rfl⟩), (fun e => by cases e)⟩
  | 1 => exact ⟨a, v, rfl, (fun e => by cases e), (fun _ => ⟨rfl, rfl⟩)⟩
  | j + 2 => exact ⟨a, b, by simp [Obj.mapSeq, two], (fun e => by cases e), (fun e => by omega)⟩
theorem step (D : ZipApart z TI TO i1 i2 l1 l2) {x y : Value} {Q : Value → Shared → Prop} (a : At s.heap z TI TO i1 i2 l1 l2 .none k) (h1 : s.heap.IsList l1 xs) (h2 : s.heap.IsList l2 ys) (ex : xs[k]? = some x) (ey : ys[k]? = some y)
    (hQ : ∀ h', At h' z TI TO i1 i2 l1 l2 (rawInt s.heap.objs.size) (k + 1) → h'.get? s.heap.objs.size = some (two x y) →
      (∀ c o, c ≠ z → c ≠ TO → c ≠ i1 → c ≠ i2 → s.heap.get? c = some o → h'.get? c = some o) → Q (.ref s.heap.objs.size) { s with heap := h' }) :
    wpAny (model prog w) A (Builtin.«zip.__next__» ⟨[.ref z], []⟩) (fun fin s' => ∃ v, fin = .done (.ret v) ∧ Q v s') E s := by
  obtain ⟨hz, hTI, ⟨a0, b0, hTO⟩, j1, j2⟩ := a
  have zT : z ≠ TO := D.TOz.symm
  have fld : ∀ {h : Shared} {f : Value} {j : Nat} {v : Value} {R : Value → Shared → Prop}, h.heap.get? z = some (zo f (.ref TI) (.ref TO)) → (#[f, .bool false, .bool true, .ref TI, .ref TO] : Array Value)[j]? = some v → R v h → wpAny (model prog w) A (field (.ref z) j) R E h :=
    fun e e' r => wpAny_field e rfl e' r
  show wpAny _ _ (field (.ref z) 2 >>= _) _ _ _
  refine wpAny_bind (fld hz rfl ?_)
  show wpAny _ _ (field (.ref z) 3 >>= _) _ _ _
  refine wpAny_bind (fld hz rfl (wpAny_bind (wpAny_seqItems hTI rfl ?_)))
  show wpAny _ _ (Builtin.SmallTypes.ownedTupleIsFree (.ref z) >>= _) _ _ _
  unfold Builtin.SmallTypes.ownedTupleIsFree
  refine wpAny_bind (wpAny_bind (fld hz rfl (wpAny_pure ?_)))
  simp only [if_true]
  refine wpAny_bind (wpAny_rule (wpAny_bind (fld hz rfl (wpAny_bind (setF hz fun g1 z1 c1 => ?_)))))
  refine wpAny_bind ?_
  simp only [List.zipIdx_cons, List.zipIdx_nil, List.forIn_cons, List.forIn_nil]
  have p1 := h1.extBut c1.extBut D.l1z
  refine wpAny_bind (wpAny_bind (wpAny_onRaise (show wpAny _ _ (Builtin.SmallTypes.nextOrEnd (.ref i1)) _ _ _ from itemOf (j1.extBut c1.extBut D.i1z) p1 ex fun g2 k2 c2 => ?_)))
  have t2 : g2.get? TO = some (two a0 b0) := c2.extBut _ _ D.TOi1 (c1.extBut _ _ D.TOz hTO)
  refine wpAny_bind (wpAny_seqItems t2 rfl (wpAny_bind (setT t2 fun g3 ⟨a3, b3, t3, q3, _⟩ c3 => wpAny_bind (wpAny_letGo (wpAny_pure ?_)))))
  obtain ⟨rfl, rfl⟩ := q3 rfl
  refine wpAny_bind (wpAny_bind (wpAny_onRaise (show wpAny _ _ (Builtin.SmallTypes.nextOrEnd (.ref i2)) _ _ _ from itemOf (((j2.extBut c1.extBut D.i2z).extBut c2.extBut D.i12.symm).extBut c3.extBut D.TOi2.symm) (((h2.extBut c1.extBut D.l2z).extBut c2.extBut D.l2i1).extBut c3.extBut D.l2TO) ey fun g4 k4 c4 => ?_)))
  have t4 := c4.extBut _ _ D.TOi2 t3
  refine wpAny_bind (wpAny_seqItems t4 rfl (wpAny_bind (setT t4 fun g5 ⟨a5, b5, t5, _, q5⟩ c5 => wpAny_bind (wpAny_letGo (wpAny_pure (wpAny_pure ?_))))))
  obtain ⟨rfl, rfl⟩ := q5 rfl
  refine wpAny_bind (wpAny_seqItems t5 rfl (wpAny_bind (wpAny_newTuple ?_)))
  have size : g5.objs.size = s.heap.objs.size := by rw [c5.1, c4.1, c3.1, c2.1, c1.1]
  have all : ∀ c o, c ≠ z → c ≠ TO → c ≠ i1 → c ≠ i2 → s.heap.get? c = some o → g5.get? c = some o := fun c o q1 q2 q3 q4 e => c5.extBut _ _ q2 (c4.extBut _ _ q4 (c3.extBut _ _ q2 (c2.extBut _ _ q3 (c1.extBut _ _ q1 e))))
  have z5 := c5.extBut _ _ zT (c4.extBut _ _ D.i2z.symm (c3.extBut _ _ zT (c2.extBut _ _ D.i1z.symm z1)))
  show wpAny _ _ (Builtin.SmallTypes.ownedTupleHandOut (.ref z) (.ref g5.objs.size) >>= _) _ _ _
  unfold Builtin.SmallTypes.ownedTupleHandOut
  refine wpAny_bind (wpAny_bind (setF (Heap.get?_push_of_some _ z5) fun g6 z6 c6 => ?_))
  refine setF1 z6 fun g7 z7 c7 => ?_
  refine wpAny_pure ?_
  refine ⟨_, rfl, ?_⟩
  have up : ∀ c o, c ≠ z → g5.get? c = some o → g7.get? c = some o := fun c o q e => c7.extBut _ _ q (c6.extBut _ _ q (Heap.get?_push_of_some _ e))
  have nz : g5.objs.size ≠ z := Nat.ne_of_gt (Heap.lt_size z5)
  have t7 : g7.get? g5.objs.size = some (two x y) := c7.extBut _ _ nz (c6.extBut _ _ nz (Heap.get?_push_size _ rfl))
  show Q (.ref g5.objs.size) _
  rw [size] at t7 z7 ⊢
  refine hQ g7 ⟨z7, up _ _ D.TIz (all _ _ D.TIz D.TITO D.TIi1 D.TIi2 hTI), ⟨_, _, up _ _ D.TOz t5⟩, ?_, ?_⟩ t7 fun c o q1 q2 q3 q4 e => up c o q1 (all c o q1 q2 q3 q4 e)
  · exact (((k2.extBut c3.extBut D.TOi1.symm).extBut c4.extBut D.i12).extBut c5.extBut D.TOi1.symm).at fun o e => up _ o D.i1z e
  · exact (k4.extBut c5.extBut D.TOi2.symm).at fun o e => up _ o D.i2z e
theorem stops {Q : Fin → Shared → Prop} (hh : A.handled = none) (hE : ∀ h' e, (∀ c o, s.heap.get? c = some o → h'.get? c = some o) → (∃ o, h'.get? e = some o ∧ o.cls = .type "StopIteration") → E (.ref e) { s with heap := h' }) :
    wpAny (model prog w) A (Builtin.SmallTypes.stopIteration) Q E s := by
  unfold Builtin.SmallTypes.stopIteration
  repeat (any_goals (first | assumption | wp_step))
  unfold raiseNew
  refine wpAny_bind (wpAny_handled ?_)
  rw [hh]
  exact wpAny_bind (wpAny_pure (wpAny_throw (hE _ _ (fun c o e => Heap.get?_push_of_some _ (Heap.get?_push_of_some _ e)) ⟨_, Heap.get?_push_size _ rfl, rfl⟩)))
theorem stop (D : ZipApart z TI TO i1 i2 l1 l2) {Q : Fin → Shared → Prop} (hh : A.handled = none) (a : At s.heap z TI TO i1 i2 l1 l2 .none k) (h1 : s.heap.IsList l1 xs) (h2 : s.heap.IsList l2 ys) (ex : xs[k]? = none) (ey : ys[k]? = none)
    (hE : ∀ h' e, (∀ c o, c ≠ z → c ≠ TO → c ≠ i1 → c ≠ i2 → s.heap.get? c = some o → h'.get? c = some o) → (∃ o, h'.get? e = some o ∧ o.cls = .type "StopIteration") → E (.ref e) { s with heap := h' }) :
    wpAny (model prog w) A (Builtin.«zip.__next__» ⟨[.ref z], []⟩) Q E s := by
  obtain ⟨hz, hTI, ⟨a0, b0, hTO⟩, j1, j2⟩ := a
  have fld : ∀ {h : Shared} {f : Value} {j : Nat} {v : Value} {R : Value → Shared → Prop}, h.heap.get? z = some (zo f (.ref TI) (.ref TO)) → (#[f, .bool false, .bool true, .ref TI, .ref TO] : Array Value)[j]? = some v → R v h → wpAny (model prog w) A (field (.ref z) j) R E h :=
    fun e e' r => wpAny_field e rfl e' r
  show wpAny _ _ (field (.ref z) 2 >>= _) _ _ _
  refine wpAny_bind (fld hz rfl ?_)
  show wpAny _ _ (field (.ref z) 3 >>= _) _ _ _
  refine wpAny_bind (fld hz rfl (wpAny_bind (wpAny_seqItems hTI rfl ?_)))
  show wpAny _ _ (Builtin.SmallTypes.ownedTupleIsFree (.ref z) >>= _) _ _ _
  unfold Builtin.SmallTypes.ownedTupleIsFree
  refine wpAny_bind (wpAny_bind (fld hz rfl (wpAny_pure ?_)))
  simp only [if_true]
  refine wpAny_bind (wpAny_rule (wpAny_bind (fld hz rfl (wpAny_bind (setF hz fun g1 z1 c1 => ?_)))))
  refine wpAny_bind ?_
  simp only [List.zipIdx_cons, List.zipIdx_nil, List.forIn_cons, List.forIn_nil]
  refine wpAny_bind (wpAny_bind (wpAny_onRaise (show wpAny _ _ (Builtin.SmallTypes.nextOrEnd (.ref i1)) _ _ _ from endOf hh (j1.extBut c1.extBut D.i1z) (h1.extBut c1.extBut D.l1z) ex fun g2 c2 => ?_)))
  have z2 := c2 _ _ D.i1z.symm z1
  refine wpAny_bind (setF z2 fun g3 z3 c3 => wpAny_bind ?_)
  have j3 := ((j2.extBut c1.extBut D.i2z).extBut c2 D.i12.symm).extBut c3.extBut D.i2z
  have l3 := ((h2.extBut c1.extBut D.l2z).extBut c2 D.l2i1).extBut c3.extBut D.l2z
  have q1 : ∀ {R : Option Value → Shared → Prop}, (∀ h', Heap.ExtBut i2 g3 h' → R none { s with heap := h' }) → wpAny (model prog w) A (Builtin.SmallTypes.nextOrEnd (.ref i2)) R E { s with heap := g3 } := fun r => endOf (s := { s with heap := g3 }) hh j3 l3 ey r
  have q2 : ∀ {R : PySem.Fin → Shared → Prop} {h : Heap}, (∀ c o, c ≠ z → c ≠ TO → c ≠ i1 → c ≠ i2 → s.heap.get? c = some o → h.get? c = some o) → wpAny (model prog w) A (Builtin.SmallTypes.stopIteration) R E { s with heap := h } :=
    fun {R h} r => stops (s := { s with heap := h }) hh fun h' e k he => hE h' e (fun c o a1 a2 a3 a4 x => k c o (r c o a1 a2 a3 a4 x)) he
  iterate 3 wp_step
  simp only [List.drop_succ_cons, List.drop_zero, List.zipIdx_cons, List.zipIdx_nil, List.forIn_cons, List.forIn_nil]
  refine wpAny_bind (wpAny_bind (q1 fun g4 c4 => ?_))
  simp only [Option.isSome_none, Bool.false_eq_true, if_false]
  refine wpAny_pure (wpAny_pure (wpAny_bind (wpAny_rule (q2 fun c o a1 a2 a3 a4 x => ?_))))
  exact c4 _ _ a4 (c3.extBut _ _ a1 (c2 _ _ a3 (c1.extBut _ _ a1 x)))
end
end ZipS
end

section
set_option maxRecDepth 100000
set_option maxHeartbeats 1000000
namespace ZipS
open PySem PySem.Spec PyProof.Rows
open Sem (wp)
section
variable {prog : Program} {w : World} {A : Around} {E : Value → Shared → Prop} {s : Shared} {z TI TO i1 i2 l1 l2 : Addr} {k : Nat} {xs ys : Array Value}
theorem is_zip {h : Shared} {f a b : Value} (hz : h.heap.get? z = some (zo f a b)) : h.TypeIs (.ref z) "zip" := ⟨_, hz, rfl⟩
theorem next1 (D : ZipApart z TI TO i1 i2 l1 l2) {x y : Value} {Q : Option Value → Shared → Prop} (a : At s.heap z TI TO i1 i2 l1 l2 .none k) (h1 : s.heap.IsList l1 xs) (h2 : s.heap.IsList l2 ys) (ex : xs[k]? = some x) (ey : ys[k]? = some y)
    (hQ : ∀ h', At h' z TI TO i1 i2 l1 l2 (rawInt s.heap.objs.size) (k + 1) → h'.get? s.heap.objs.size = some (two x y) →
      (∀ c o, c ≠ z → c ≠ TO → c ≠ i1 → c ≠ i2 → s.heap.get? c = some o → h'.get? c = some o) → Q (some (.ref s.heap.objs.size)) { s with heap := h' }) : wpAny (model prog w) A (pyNext (.ref z)) Q E s := by
  unfold pyNext
  exact wpAny_bind (wpAny_attempt (wpAny_callSpecial?_slot (name := Str.ofString "__next__") (is_zip a.z) F.slot_zip_next (wpAny_call_entry F.slot_zip_next (is_zip a.z) F.entry_zip_next
    (step D a h1 h2 ex ey fun h' q1 q2 q3 => wpAny_pure (hQ h' q1 q2 q3)) (F.args_zip_next_1 _))))
theorem next0 (D : ZipApart z TI TO i1 i2 l1 l2) {Q : Option Value → Shared → Prop} (hh : A.handled = none) (a : At s.heap z TI TO i1 i2 l1 l2 .none k) (h1 : s.heap.IsList l1 xs) (h2 : s.heap.IsList l2 ys) (ex : xs[k]? = none) (ey : ys[k]? = none)
    (hQ : ∀ h', (∀ c o, c ≠ z → c ≠ TO → c ≠ i1 → c ≠ i2 → s.heap.get? c = some o → h'.get? c = some o) → Q none { s with heap := h' }) : wpAny (model prog w) A (pyNext (.ref z)) Q E s := by
  unfold pyNext
  refine wpAny_bind (wpAny_attempt (wpAny_callSpecial?_slot (name := Str.ofString "__next__") (is_zip a.z) F.slot_zip_next (wpAny_call_entry F.slot_zip_next (is_zip a.z) F.entry_zip_next
    (stop D hh a h1 h2 ex ey fun h' e q1 ⟨o, q2, q3⟩ => ?_) (F.args_zip_next_1 _))))
  exact wpAny_bind (wpAny_isInstance (T := "StopIteration") (b := true) ⟨o, q2, q3⟩ isSubtype_stop (wpAny_pure (hQ _ q1)))
theorem lets {elts : List Expr} {kk : Nat} {pos : Pos} {T : Addr} {Q : Unit → Shared → Prop} (hz : s.heap.get? z = some (zo (rawInt T) (.ref TI) (.ref TO))) (hQ : ∀ h', h'.get? z = some (zo .none (.ref TI) (.ref TO)) → Heap.SameBut z s.heap h' → Q () { s with heap := h' }) :
    wpAny (model prog w) A (letOwnedTupleGo (.Tuple elts kk pos) (.ref z) (.ref T)) Q E s := by
  unfold letOwnedTupleGo
  refine wpAny_bind (wpAny_load hz (show wpAny _ _ (if (["enumerate", "zip", "dict_itemiterator", "dict_reverseitemiterator", "odict_iterator", "itertools.zip_longest", "itertools.pairwise"].contains "zip" && (#[rawInt T, .bool false, .bool true, .ref TI, .ref TO] : Array Value)[0]? == some (rawInt T)) = true then _ else _) Q E s from ?_))
  rw [if_pos (by simp)]
  exact wpAny_bind (wpAny_rule (show wpAny _ _ (setField (.ref z) 0 .none) Q E s from setF hz hQ))
theorem iterS {f a b : Value} {Q : Value → Shared → Prop} (hz : s.heap.get? z = some (zo f a b)) (q : Q (.ref z) s) : wpAny (model prog w) A (pyIter (.ref z)) Q E s :=
  wpAny_pyIter_slot (is_zip hz) F.slot_zip_iter (wpAny_call_entry F.slot_zip_iter (is_zip hz) F.entry_zip_iter (show wpAny _ _ (ret (.ref z)) _ _ s from wpAny_pure ⟨_, rfl, "zip", _, is_zip hz, F.slot_zip_next.lookup, q⟩) (F.args_zip_iter_1 _))
theorem call_zs {Q : Value → Shared → Prop} (h1 : s.heap.IsList l1 xs) (h2 : s.heap.IsList l2 ys)
    (q : ∀ h', At h' (s.heap.objs.size + 4) (s.heap.objs.size + 2) (s.heap.objs.size + 3) s.heap.objs.size (s.heap.objs.size + 1) l1 l2 .none 0 → (∀ c o, s.heap.get? c = some o → h'.get? c = some o) → Q (.ref (s.heap.objs.size + 4)) { s with heap := h' }) :
    wpAny (model prog w) A (call (.type "zip") [.ref l1, .ref l2] [(Str.ofString "strict", .bool true)]) Q E s := by
  refine callType_newKw F.called_zip (by decide) (tc _ _ _) (nc _ _ _) (fun o => ok3 o _ _ _) F.entry_zip_new (made l1 l2 xs ys) ⟨h1, h2, ?_⟩
  have s1 : (n1 s.heap l1).objs.size = s.heap.objs.size + 1 := by unfold n1; exact Heap.size_push ..
  have s2 : (n2 s.heap l1 l2).objs.size = s.heap.objs.size + 2 := by unfold n2; rw [Heap.size_push, s1]
  have s3 : (n3 s.heap l1 l2).objs.size = s.heap.objs.size + 3 := by unfold n3; rw [Heap.size_push, s2]
  have s4 : (n4 s.heap l1 l2).objs.size = s.heap.objs.size + 4 := by unfold n4; rw [Heap.size_push, s3]
  have up : ∀ {h : Heap} {o : Obj} {c : Addr} {u : Obj}, h.get? c = some u → (h.push o).get? c = some u := fun e => Heap.get?_push_of_some _ e
  have top : ∀ {h : Heap} {o : Obj} {c : Addr}, o.isFreed = false → h.objs.size = c → (h.push o).get? c = some o := fun f e => by rw [← e]; exact Heap.get?_push_size _ f
  have k1 : (n5 s.heap l1 l2).get? s.heap.objs.size = some (li l1) := by unfold n5 n4 n3 n2 n1; exact up (up (up (up (top rfl rfl))))
  have k2 : (n5 s.heap l1 l2).get? (s.heap.objs.size + 1) = some (li l2) := by unfold n5 n4 n3 n2; exact up (up (up (top rfl s1)))
  have k3 : (n5 s.heap l1 l2).get? (s.heap.objs.size + 2) = some (two (.ref s.heap.objs.size) (.ref (s.heap.objs.size + 1))) := by unfold n5 n4 n3; rw [← s1]; exact up (up (top rfl s2))
  have k4 : (n5 s.heap l1 l2).get? (s.heap.objs.size + 3) = some (two .none .none) := by unfold n5 n4; exact up (top rfl s3)
  have k5 : (n5 s.heap l1 l2).get? (s.heap.objs.size + 4) = some (zo .none (.ref (s.heap.objs.size + 2)) (.ref (s.heap.objs.size + 3))) := by unfold n5; rw [← s2, ← s3]; exact top rfl s4
  show _ ∧ _
  rw [s4]
  exact ⟨is_zip (h := { s with heap := n5 s.heap l1 l2 }) k5, q _ ⟨k5, k3, ⟨_, _, k4⟩, ⟨_, k1, rfl, rfl⟩, ⟨_, k2, rfl, rfl⟩⟩ fun c o e => by unfold n5 n4 n3 n2 n1; exact up (up (up (up (up e))))⟩
end
end ZipS
end

section
set_option maxRecDepth 100000
set_option maxHeartbeats 1000000
namespace ZipS
open PySem PySem.Spec PyProof.Rows L2
def ItS (K : PySem.W.Frag) (a b : Addr) : It :=
  ⟨(Itz K a b).go, (Itz K a b).yld, fun i H => ∃ xs ys : List V, SqL K H a xs ∧ SqL K H b ys ∧ xs.length ≤ i ∧ ys.length ≤ i⟩
theorem five {z TI TO i1 i2 c : Addr} (h : c ∈ [z, TI, TO, i1, i2]) : c = z ∨ c = TI ∨ c = TO ∨ c = i1 ∨ c = i2 := by simpa using h
theorem At.there {h : Heap} {z TI TO i1 i2 a b : Addr} {f : Value} {k : Nat} (t : At h z TI TO i1 i2 a b f k) {c : Addr} (hc : c ∈ [z, TI, TO, i1, i2]) : ∃ o, h.get? c = some o ∧ ∀ v, o.data ≠ .cell v := by
  obtain ⟨hz, hTI, ⟨x, y, hTO⟩, ⟨o1, e1, _, d1⟩, ⟨o2, e2, _, d2⟩⟩ := t
  rcases five hc with rfl | rfl | rfl | rfl | rfl
  · exact ⟨_, hz, fun v q => by cases q⟩
  · exact ⟨_, hTI, fun v q => by cases q⟩
  · exact ⟨_, hTO, fun v q => by cases q⟩
  · exact ⟨o1, e1, fun v q => by rw [d1] at q; cases q⟩
  · exact ⟨o2, e2, fun v q => by rw [d2] at q; cases q⟩
theorem At.keep {h h' : Heap} {z TI TO i1 i2 a b : Addr} {f : Value} {k : Nat} (t : At h z TI TO i1 i2 a b f k) (q : ∀ c ∈ [z, TI, TO, i1, i2], ∀ o, h.get? c = some o → h'.get? c = some o) : At h' z TI TO i1 i2 a b f k := by
  obtain ⟨hz, hTI, ⟨x, y, hTO⟩, h1, h2⟩ := t
  exact ⟨q z (by simp) _ hz, q TI (by simp) _ hTI, ⟨x, y, q TO (by simp) _ hTO⟩, h1.at fun o e => q i1 (by simp) o e, h2.at fun o e => q i2 (by simp) o e⟩
theorem turnS {P : Program} {w : World} {K : PySem.W.Frag} {elts : List Expr} {kk : Nat} {tpos : Pos} {a b z TI TO i1 i2 : Addr} (D : ZipApart z TI TO i1 i2 a b) :
    Turn P w K (.Tuple elts kk tpos) (ItS K a b) [z, TI, TO, i1, i2] z (fun i h => At h z TI TO i1 i2 a b .none i) where
  mem := List.mem_cons_self
  obj := fun i h t c hc => t.there hc
  keep := fun i h h' t q => t.keep q
  self := fun A i s Q E t h => iterS t.z h
  done := by
    intro X hP hw hK hc i pins s σ H E I hf t ⟨xs, ys, q1, q2, e1, e2⟩
    subst hP hw hK
    obtain ⟨us, r1, p1, _⟩ := I.list q1
    obtain ⟨ws, r2, p2, _⟩ := I.list q2
    have n1 := r1.length
    have n2 := r2.length
    refine next0 D (I.ok.hd hc) t p1.isList p2.isList (by simp; omega) (by simp; omega) fun h' hk => ⟨rfl, I.turnedL (t' := s.toks) (ch := [z, TI, TO, i1, i2]) (fun c o hb q => ?_) hf⟩
    simp only [List.mem_cons, List.not_mem_nil, or_false, not_or] at hb
    exact hk c o hb.1 hb.2.2.1 hb.2.2.2.1 hb.2.2.2.2 q
  item := by
    intro X hP hw hK hc i pins s σ H E I hf t ⟨xs, ys, x, y, q1, q2, ex, ey⟩
    subst hP hw hK
    obtain ⟨us, r1, p1, _⟩ := I.list q1
    obtain ⟨ws, r2, p2, _⟩ := I.list q2
    obtain ⟨u, eu, ru⟩ := r1.get ex
    obtain ⟨v, ev, rv⟩ := r2.get ey
    have zl := Heap.lt_size t.z
    refine next1 D t p1.isList p2.isList (x := u) (y := v) (by simpa using eu) (by simpa using ev) fun h1 t1 g1 k1 => ⟨_, rfl, ?_⟩
    refine lets (s := { s with heap := h1 }) t1.z fun h2 z2 sb => ?_
    have g2 : h2.get? s.heap.objs.size = some (two u v) := (sb.2 _ (Nat.ne_of_gt zl)).trans g1
    have I1 : Inv X pins σ (upd H s.heap.objs.size (.tup [x, y])) { s with heap := h2 } :=
      I.turnedNew (t' := s.toks) (ch := [z, TI, TO, i1, i2]) (fun c o hb q => by
        simp only [List.mem_cons, List.not_mem_nil, or_false, not_or] at hb
        exact (sb.2 c hb.1).trans (k1 c o hb.1 hb.2.2.1 hb.2.2.2.1 hb.2.2.2.2 q)) hf (Nat.le_refl _) ⟨(by show 2 ≤ sizeLine; decide), [u, v], .cons ru (.cons rv .nil), ⟨_, g2, rfl, _, rfl⟩⟩
    obtain ⟨_, tTI, ⟨x1, y1, tTO⟩, t4, t5⟩ := t1
    refine ⟨.ref s.heap.objs.size, _, I1, rfl, ⟨_, x, y, rfl, I.hok.fresh (Nat.le_refl _), rfl, (fun l hl => by rw [I.list_inj hl q1]; exact ex), (fun l hl => by rw [I.list_inj hl q2]; exact ey)⟩,
      ⟨z2, (sb.2 _ D.TIz).trans tTI, ⟨x1, y1, (sb.2 _ D.TOz).trans tTO⟩, t4.at fun o q => (sb.2 _ D.i1z).trans q, t5.at fun o q => (sb.2 _ D.i2z).trans q⟩, fun c hcm => ?_⟩
    obtain ⟨o, eo, _⟩ := t.there hcm
    rw [upd_ne (Nat.ne_of_lt (Heap.lt_size eo))]
    exact (hf c hcm).1
section
variable {M : Model} {A : Around} {E : Value → Shared → Prop} {s : Shared} {env : Env}
theorem callK {pos : Pos} {T : String} {e : Expr} {rest : List Expr} {kws : List Keyword} {Q : Value → Shared → Prop}
    (h : wpAny M A (spliced (backTo pos (starEach (e :: rest) env))) (fun vs s1 => wpAny M A (evalAll ((backToKw pos (keywordEach kws env)).map (·.2))) (fun ws s2 => wpAny M A (call (.type T) vs (((backToKw pos (keywordEach kws env)).filterMap (·.1)).zip ws)) Q E s2) E s1) E s)
    (he : backTo pos (starEach (e :: rest) env) = (false, eval e env) :: backTo pos (starEach rest env)) (hp : (backTo pos (starEach (e :: rest) env)).any (·.1) = false)
    (ha : (backToKw pos (keywordEach kws env)).all (·.1.isSome) = true) (hn : (backToKw pos (keywordEach kws env)).any (·.1.isNone) = false) :
    wpAny M A (callWith pos (.type T) [] (backTo pos (starEach (e :: rest) env)) (backToKw pos (keywordEach kws env))) Q E s := by
  have h' : wpAny M A (evalArgs (.type T) true (backTo pos (starEach (e :: rest) env)) (backToKw pos (keywordEach kws env))) (fun a s1 => wpAny M A (call (.type T) ([] ++ a.pos) a.kw) Q E s1) E s := by
    rw [he] at h ⊢
    exact evalArgs_kwB ha h
  unfold callWith
  refine wpAny_bind (wpAny_holding (wpAny_mono h' (fun a s1 q => wpAny_bind (wpAny_standAt ?_)) fun _ _ q => q))
  simp only [hp, hn, Bool.or_false]
  exact wpAny_bind (wpAny_pure (wpAny_bind (wpAny_mono q (fun r s2 k => wpAny_bind (wpAny_holding (wpAny_point (wpAny_pure k)))) fun _ _ q => q)))
end
def iZs (K : PySem.W.Frag) (ta : TA) : TI := fun σ H R => ta σ H fun vs H1 => ∃ a b xs ys, vs = [.ref a, .ref b] ∧ SqL K H1 a xs ∧ SqL K H1 b ys ∧ R (ItS K a b) H1
theorem pi_zs {X : Cx} {e e2 : Expr} {ta : TA} {p p2 kp pos tpos : Pos} {j : Nat} {elts : List Expr} {kk : Nat} (hg : Gl X "zip") (hm : X.mg "zip" = none) (ha : PA X [e, e2] ta)
    (he : backTo pos (starEach [e, e2] X.env) = (false, eval e X.env) :: backTo pos (starEach [e2] X.env) := by rfl) (hp : (backTo pos (starEach [e, e2] X.env)).any (·.1) = false := by rfl)
    (hall : (backToKw pos (keywordEach [⟨some "strict", .Constant (.bool true) j p2, kp⟩] X.env)).all (·.1.isSome) = true := by rfl) (hnone : (backToKw pos (keywordEach [⟨some "strict", .Constant (.bool true) j p2, kp⟩] X.env)).any (·.1.isNone) = false := by rfl)
    (hks : (backToKw pos (keywordEach [⟨some "strict", .Constant (.bool true) j p2, kp⟩] X.env)).filterMap (·.1) = [Str.ofString "strict"] := by rfl) :
    PI X (.Tuple elts kk tpos) (.Call (.Name "zip" p) [e, e2] [⟨some "strict", .Constant (.bool true) j p2, kp⟩] pos) (iZs X.K ta) := by
  refine ⟨fun pins s σ H R I h => ?_⟩
  refine wpAny_Call_Name_kw (ld_blt I hg hm PyProof.Rows.boot_zip ?_ (by decide) (by decide))
  have kw : PK X [⟨some "strict", .Constant (.bool true) j p2, kp⟩] (tCons (tC (.bl true)) tNil) := pk_cons pe_bl pk_nil
  refine callK (thn (ha.run pos pins s σ H _ I h) fun us s1 ⟨vs, H1, I1, r1, a, b, xs, ys, ev, q1, q2, q⟩ => thn (kw.run pos pins s1 σ H1 (fun zs H2 => zs = [.bl true] ∧ H2 = H1) I1 ⟨rfl, rfl⟩) fun ws s2 ⟨zs, H2, I2, r2, ez, eH⟩ => ?_) he hp hall hnone
  subst ev ez eH
  rw [hks]
  cases r1 with
  | cons ra rr => cases rr with
    | cons rb rr =>
      cases rr; cases ra; cases rb
      cases r2 with
      | cons rw' rr =>
        cases rr
        obtain rfl : _ = Value.bool true := rw'
        obtain ⟨vx, w1, p1, _⟩ := I2.list q1
        obtain ⟨vy, w2, p2, _⟩ := I2.list q2
        refine call_zs p1.isList p2.isList fun h' t hk => iterS t.z ?_
        refine ⟨_, _, _, _, H2, rfl, I2.kept (t' := s2.toks) hk, turnS (PySem.W.ktu_apart s2.heap.objs.size a b p1.lt p2.lt), t, fun c hc => ?_, q⟩
        have hle : s2.heap.objs.size ≤ c := by rcases five hc with rfl | rfl | rfl | rfl | rfl <;> omega
        exact I2.fpOk hle (I2.hok.fresh hle)
end ZipS
end

section
set_option maxRecDepth 100000
set_option maxHeartbeats 1000000
namespace Ly
open PySem PySem.Spec L2
open PyProof.Rows hiding St
section
variable [Tb]
def zipD (xs ys : List D) : List D := xs.zipWith (fun a b => .t [a, b]) ys
def zsD : List D → Re (List D)
  | [a, b] => (match a.seq?, b.seq? with | some xs, some ys => if xs.length = ys.length then .ok (zipD xs ys) else .bad | _, _ => .bad)
  | _ => .bad
def itZs (fa : FA) : FI := fun Γ => (fa Γ).bind zsD
theorem zipD_get {xs ys : List D} {i : Nat} {d : D} (h : (zipD xs ys)[i]? = some d) : ∃ a b, xs[i]? = some a ∧ ys[i]? = some b ∧ d = .t [a, b] := by
  unfold zipD at h
  rw [List.getElem?_zipWith] at h
  cases e1 : xs[i]? with
  | none => rw [e1] at h; simp at h
  | some a =>
    cases e2 : ys[i]? with
    | none => rw [e1, e2] at h; simp at h
    | some b => rw [e1, e2] at h; exact ⟨a, b, rfl, rfl, (Option.some.inj h).symm⟩
theorem walk_zs {K : PySem.W.Frag} {G : Hp} {a b : Addr} {xs ys : List V} {ds es : List D} (h1 : SqL K G a xs) (h2 : SqL K G b ys) (r1 : Reps K G xs ds) (r2 : Reps K G ys es) (hl : ds.length = es.length) : WalkOk K G (ZipS.ItS K a b) (zipD ds es) := by
  refine ⟨fun G1 H1 s1 s2 i d hi => ?_, fun H1 s1 i hi => ⟨xs, ys, s1.seq h1, s1.seq h2, ?_, ?_⟩⟩
  · obtain ⟨x, y, e1, e2, rfl⟩ := zipD_get hi
    obtain ⟨v, hv, rv⟩ := r1.get' e1
    obtain ⟨w, hw, rw'⟩ := r2.get' e2
    have q1 := s2.seq (s1.seq h1)
    have q2 := s2.seq (s1.seq h2)
    refine ⟨⟨xs, ys, v, w, q1, q2, hv, hw⟩, ?_⟩
    rintro z H2 ⟨T, v', w', rfl, hT, rfl, k1, k2⟩
    have e3 := k1 xs q1
    have e4 := k2 ys q2
    rw [hv] at e3
    rw [hw] at e4
    cases e3
    cases e4
    have g := Gr.new (o := .tup [v, w]) s2 hT
    exact ⟨_, g, .t upd_same (.cons ((rv.mono s1).mono g.gg) (.cons ((rw'.mono s1).mono g.gg) .nil))⟩
  · have : (zipD ds es).length = ds.length := by unfold zipD; rw [List.length_zipWith]; omega
    rw [r1.length]; omega
  · have : (zipD ds es).length = ds.length := by unfold zipD; rw [List.length_zipWith]; omega
    rw [r2.length]; omega
section
variable {X : Cx} {c : LC} {a b e tg : Expr} {fa : FA} {pos : Pos}
theorem seq_of {G H : Hp} {v : V} {d : D} {ds : List D} (gh : Same G H) (r : Rep c.K G v d) (e : d.seq? = some ds) : ∃ p xs, v = .ref p ∧ SqL c.K G p xs ∧ Reps c.K G xs ds := by
  cases d with
  | l es => cases e; obtain ⟨p, xs, rfl, h1, h2⟩ := r.l_inv; exact ⟨p, xs, rfl, .of h1, h2⟩
  | z es => cases e; obtain ⟨p, xs, rfl, h1, h2⟩ := r.z_inv; exact ⟨p, xs, rfl, h1, h2⟩
  | _ => cases e
theorem ri_zs (cy : Cy X c) {p p2 kp tpos : Pos} {j : Nat} {elts : List Expr} {kk : Nat} (hg : Gl X "zip") (hm : X.mg "zip" = none) (ha : PA X [a, b] (tA c fa))
    (he : backTo pos (starEach [a, b] X.env) = (false, eval a X.env) :: backTo pos (starEach [b] X.env) := by rfl) (hp : (backTo pos (starEach [a, b] X.env)).any (·.1) = false := by rfl)
    (hall : (backToKw pos (keywordEach [⟨some "strict", .Constant (.bool true) j p2, kp⟩] X.env)).all (·.1.isSome) = true := by rfl) (hnone : (backToKw pos (keywordEach [⟨some "strict", .Constant (.bool true) j p2, kp⟩] X.env)).any (·.1.isNone) = false := by rfl)
    (hks : (backToKw pos (keywordEach [⟨some "strict", .Constant (.bool true) j p2, kp⟩] X.env)).filterMap (·.1) = [Str.ofString "strict"] := by rfl) :
    PI X (.Tuple elts kk tpos) (.Call (.Name "zip" p) [a, b] [⟨some "strict", .Constant (.bool true) j p2, kp⟩] pos) (tI c (itZs fa)) := by
  refine PI.weak (ZipS.pi_zs hg hm ha he hp hall hnone hks) ?_
  rintro σ H R ⟨G, Γ, hen, q⟩
  refine tA_bind (P := fun r G H => PostI c r σ G H R) hen (fun _ _ h => h) (fun _ _ _ h => h) (fun _ _ _ _ _ g h => h.later g) q fun ds vs G1 H1 _ g1 rs he1 q1 => ?_
  match ds, rs, q1 with
  | [d1, d2], .cons (v := v1) r1 (.cons (v := v2) r2 .nil), q1 =>
    unfold zsD at q1
    dsimp only at q1
    cases e1 : d1.seq? with
    | none => rw [e1] at q1; exact q1.elim
    | some xs =>
      cases e2 : d2.seq? with
      | none => rw [e1, e2] at q1; exact q1.elim
      | some ys =>
        rw [e1, e2] at q1
        dsimp only at q1
        split at q1
        · rename_i hl
          obtain ⟨p1, us, rfl, h1, k1⟩ := seq_of he1.gh r1 e1
          obtain ⟨p2, ws, rfl, h2, k2⟩ := seq_of he1.gh r2 e2
          rw [cy.K]
          exact ⟨p1, p2, us, ws, rfl, he1.gh.seq h1, he1.gh.seq h2, q1 _ _ _ (.refl he1.gh) (walk_zs h1 h2 k1 k2 hl)⟩
        · exact q1.elim
end
end
section
variable {m : Nat} {L : Lk} {k k1 k2 : Kd} {α β : Type} {ea : α → D} {eb : β → D} {f g : FE}
def zipT (xs : List α) (ys : List β) : Re (List (α × β)) := if xs.length = ys.length then .ok (xs.zip ys) else .bad
theorem zipT_ok {xs : List α} {ys : List β} (h : xs.length = ys.length) : zipT xs ys = .ok (xs.zip ys) := if_pos h
theorem ir_zs {x : Re (List α)} {y : Re (List β)} (hk1 : k1.ok = true) (hx : ER m L k1 (eL ea) x f) (hk2 : k2.ok = true) (hy : ER m L k2 (eL eb) y g) : IR m L (eP2 ea eb) (x.bind fun xs => y.bind fun ys => zipT xs ys) (itZs (aCons f (aCons g aNil))) := fun Γ hΓ => by
  have h1 := hx Γ hΓ
  have h2 := hy Γ hΓ
  unfold itZs
  rw [aCons_at]
  cases x with
  | ok xs =>
    have h1 : f Γ = .ok _ := h1
    simp only [h1, Re.bind_ok, Kd.share hk1, aCons_at]
    cases y with
    | ok ys =>
      have h2 : g Γ = .ok _ := h2
      simp only [h2, Re.bind_ok, Kd.share hk2]
      show RI1 (eP2 ea eb) (zipT xs ys) (zsD [.l (xs.map ea), .l (ys.map eb)])
      unfold zipT zsD
      show RI1 _ _ (if (xs.map ea).length = (ys.map eb).length then _ else _)
      by_cases h : xs.length = ys.length
      · rw [if_pos h, if_pos (by simpa using h)]
        show Re.ok (zipD (xs.map ea) (ys.map eb)) = Re.ok ((xs.zip ys).map (eP2 ea eb))
        unfold zipD
        rw [List.zipWith_map, List.zip, List.map_zipWith]
      · rw [if_neg h]; trivial
    | ex z => have h2 : g Γ = .ex z := h2; simp only [h2]; rfl
    | bad => trivial
  | ex z => have h1 : f Γ = .ex z := h1; rw [h1]; rfl
  | bad => trivial
end
end Ly
end

section
set_option maxRecDepth 100000
set_option maxHeartbeats 1000000
namespace Ly
open PySem PySem.Spec L2
open PyProof.Rows hiding St
mutual
def D.nd : D → List (List D)
  | .l xs => xs :: D.nds xs | .z xs => xs :: D.nds xs | .t xs => D.nds xs | .zt xs => D.nds xs | .dk _ xs => D.nds xs | .dt _ xs => D.nds xs | _ => []
def D.nds : List D → List (List D)
  | [] => []
  | x :: xs => D.nd x ++ D.nds xs
end
open Classical in
noncomputable def res (G : Hp) (S : Addr → Prop) : Hp := fun a => if S a then G a else none
theorem res_in {G : Hp} {S : Addr → Prop} {a : Addr} (h : S a) : res G S a = G a := by unfold res; exact if_pos h
theorem res_some {G : Hp} {S : Addr → Prop} {a : Addr} {o : HO} (h : res G S a = some o) : S a ∧ G a = some o := by
  unfold res at h
  by_cases e : S a
  · rw [if_pos e] at h; exact ⟨e, h⟩
  · rw [if_neg e] at h; cases h
theorem res_mono {G : Hp} {S T : Addr → Prop} (h : ∀ a, S a → T a) : Same (res G S) (res G T) := fun a o e => by
  obtain ⟨h1, h2⟩ := res_some e
  rw [res_in (h a h1)]; exact h2
theorem res_sub {G : Hp} {S : Addr → Prop} : Same (res G S) G := fun a o e => (res_some e).2
def Nd (K : PySem.W.Frag) (G : Hp) (S : Addr → Prop) (N : List (List D)) : Prop := ∀ a, S a → ∀ xs, G a = some (.lst xs) → ∃ es ∈ N, Reps K G xs es
theorem Nd.add {K : PySem.W.Frag} {G : Hp} {S : Addr → Prop} {N : List (List D)} {p : Addr} {o : HO} (h : Nd K G S N) (e : G p = some o) (n : ∀ xs, o ≠ .lst xs) : Nd K G (fun a => S a ∨ a = p) N := fun a ha xs hx => by
  rcases ha with ha | rfl
  · exact h a ha xs hx
  · rw [e] at hx; exact absurd (Option.some.inj hx) (n xs)
mutual
theorem Rep.part {K : PySem.W.Frag} {G : Hp} : ∀ {v : V} {d : D}, Rep K G v d → ∃ S, Rep K (res G S) v d ∧ Nd K G S (D.nd d)
  | _, _, .n => ⟨fun _ => False, .n, fun _ h => h.elim⟩
  | _, _, .b x => ⟨fun _ => False, .b x, fun _ h => h.elim⟩
  | _, _, .i x => ⟨fun _ => False, .i x, fun _ h => h.elim⟩
  | _, _, .s x => ⟨fun _ => False, .s x, fun _ h => h.elim⟩
  | _, _, .o a => ⟨fun _ => False, .o a, fun _ h => h.elim⟩
  | _, _, .l (a := p) (xs := ws) (ds := ds) h r => by
    obtain ⟨S, r1, n1⟩ := Reps.part r
    refine ⟨fun a => S a ∨ a = p, .l (by rw [res_in (.inr rfl)]; exact h) (r1.mono (res_mono fun a ha => .inl ha)), fun a ha xs hx => ?_⟩
    rw [D.nd]
    rcases ha with ha | rfl
    · obtain ⟨es, h1, h2⟩ := n1 a ha xs hx; exact ⟨es, List.mem_cons_of_mem _ h1, h2⟩
    · rw [h] at hx; cases hx; exact ⟨ds, List.mem_cons_self, r⟩
  | _, _, .z (a := p) (xs := ws) (ds := ds) h r => by
    obtain ⟨S, r1, n1⟩ := Reps.part r
    have old : ∀ a xs, S a → G a = some (.lst xs) → ∃ es ∈ ds :: D.nds ds, Reps K G xs es := fun a xs ha hx => by
      obtain ⟨es, h1, h2⟩ := n1 a ha xs hx; exact ⟨es, List.mem_cons_of_mem _ h1, h2⟩
    rcases h with (h | ⟨o, h⟩) | h
    · refine ⟨fun a => S a ∨ a = p, .z (.inl (.inl (by rw [res_in (.inr rfl)]; exact h))) (r1.mono (res_mono fun a ha => .inl ha)), fun a ha xs hx => ?_⟩
      rw [D.nd]
      rcases ha with ha | rfl
      · exact old a xs ha hx
      · rw [h] at hx; cases hx; exact ⟨ds, List.mem_cons_self, r⟩
    · refine ⟨fun a => S a ∨ a = p, .z (.inl (.inr ⟨o, by rw [res_in (.inr rfl)]; exact h⟩)) (r1.mono (res_mono fun a ha => .inl ha)), fun a ha xs hx => ?_⟩
      rw [D.nd]
      rcases ha with ha | rfl
      · exact old a xs ha hx
      · rw [h] at hx; cases hx
    · exact ⟨S, .z (.inr h) r1, fun a ha xs hx => by rw [D.nd]; exact old a xs ha hx⟩
  | _, _, .t (a := p) h r => by
    obtain ⟨S, r1, n1⟩ := Reps.part r
    exact ⟨fun a => S a ∨ a = p, .t (by rw [res_in (.inr rfl)]; exact h) (r1.mono (res_mono fun a ha => .inl ha)), by rw [D.nd]; exact n1.add h fun xs z => by cases z⟩
  | _, _, .zt (a := p) h r => by
    obtain ⟨S, r1, n1⟩ := Reps.part r
    rcases h with (h | ⟨o, h⟩) | h
    · exact ⟨fun a => S a ∨ a = p, .zt (.inl (.inl (by rw [res_in (.inr rfl)]; exact h))) (r1.mono (res_mono fun a ha => .inl ha)), by rw [D.nd]; exact n1.add h fun xs z => by cases z⟩
    · exact ⟨fun a => S a ∨ a = p, .zt (.inl (.inr ⟨o, by rw [res_in (.inr rfl)]; exact h⟩)) (r1.mono (res_mono fun a ha => .inl ha)), by rw [D.nd]; exact n1.add h fun xs z => by cases z⟩
    · exact ⟨S, .zt (.inr h) r1, by rw [D.nd]; exact n1⟩
  | _, _, .dk (a := p) h q r => by
    obtain ⟨S, r1, n1⟩ := Reps.part r
    rcases h with h | ⟨o, h⟩
    · exact ⟨fun a => S a ∨ a = p, .dk (.inl (by rw [res_in (.inr rfl)]; exact h)) q (r1.mono (res_mono fun a ha => .inl ha)), by rw [D.nd]; exact n1.add h fun xs z => by cases z⟩
    · exact ⟨fun a => S a ∨ a = p, .dk (.inr ⟨o, by rw [res_in (.inr rfl)]; exact h⟩) q (r1.mono (res_mono fun a ha => .inl ha)), by rw [D.nd]; exact n1.add h fun xs z => by cases z⟩
  | _, _, .dt (a := p) h q r => by
    obtain ⟨S, r1, n1⟩ := Reps.part r
    rcases h with h | ⟨o, h⟩
    · exact ⟨fun a => S a ∨ a = p, .dt (.inl (by rw [res_in (.inr rfl)]; exact h)) q (r1.mono (res_mono fun a ha => .inl ha)), by rw [D.nd]; exact n1.add h fun xs z => by cases z⟩
    · exact ⟨fun a => S a ∨ a = p, .dt (.inr ⟨o, by rw [res_in (.inr rfl)]; exact h⟩) q (r1.mono (res_mono fun a ha => .inl ha)), by rw [D.nd]; exact n1.add h fun xs z => by cases z⟩
theorem Reps.part {K : PySem.W.Frag} {G : Hp} : ∀ {vs : List V} {ds : List D}, Reps K G vs ds → ∃ S, Reps K (res G S) vs ds ∧ Nd K G S (D.nds ds)
  | _, _, .nil => ⟨fun _ => False, .nil, fun _ h => h.elim⟩
  | _, _, .cons h r => by
    obtain ⟨S, r1, n1⟩ := Rep.part h
    obtain ⟨T, r2, n2⟩ := Reps.part r
    refine ⟨fun a => S a ∨ T a, .cons (r1.mono (res_mono fun a ha => .inl ha)) (r2.mono (res_mono fun a ha => .inr ha)), fun a ha xs hx => ?_⟩
    rw [D.nds]
    rcases ha with ha | ha
    · obtain ⟨es, h1, h2⟩ := n1 a ha xs hx; exact ⟨es, List.mem_append.mpr (.inl h1), h2⟩
    · obtain ⟨es, h1, h2⟩ := n2 a ha xs hx; exact ⟨es, List.mem_append.mpr (.inr h1), h2⟩
end
end Ly
end

section
set_option maxRecDepth 100000
set_option maxHeartbeats 1000000
namespace Ly
open PySem PySem.Spec L2
open PyProof.Rows hiding St
section
variable [Tb]
def newOk (N : List (List D)) : List D → Bool
  | [] => true
  | .l es :: r => (match D.ints es with | some zs => N.all fun fs => decide (D.ints fs ≠ some zs) | none => false) && newOk N r
  | _ :: _ => false
theorem newOk_at : ∀ {N : List (List D)} {rs : List D}, newOk N rs = true → ∀ d ∈ rs, ∃ zs : List Int, d = .l (zs.map .i) ∧ ∀ fs ∈ N, D.ints fs ≠ some zs
  | N, [], _, d, hd => by cases hd
  | N, .l es :: r, h, d, hd => by
    unfold newOk at h
    rw [Bool.and_eq_true] at h
    rcases List.mem_cons.mp hd with rfl | hd
    · cases e : D.ints es with
      | none => rw [e] at h; cases h.1
      | some zs =>
        rw [e] at h
        refine ⟨zs, by rw [D.ints_eq e], fun fs hf => ?_⟩
        have := List.all_eq_true.mp h.1 fs hf
        simpa using this
    · exact newOk_at h.2 d hd
  | N, .n :: r, h, d, hd => by cases h
  | N, .b _ :: r, h, d, hd => by cases h
  | N, .i _ :: r, h, d, hd => by cases h
  | N, .s _ :: r, h, d, hd => by cases h
  | N, .o _ :: r, h, d, hd => by cases h
  | N, .t _ :: r, h, d, hd => by cases h
  | N, .z _ :: r, h, d, hd => by cases h
  | N, .zt _ :: r, h, d, hd => by cases h
  | N, .dk _ _ :: r, h, d, hd => by cases h
  | N, .dt _ _ :: r, h, d, hd => by cases h
theorem ints_of {K : PySem.W.Frag} {G : Hp} : ∀ {zs : List Int} {es : List D}, Reps K G (zs.map V.int) es → D.ints es = some zs
  | [], _, .nil => rfl
  | z :: zs, _, .cons h r => by
    cases h
    rw [D.ints, ints_of r]
    rfl
def eCallN (n : Nat) (F : List D → Re Rv) (fa : FA) : FE := fun Γ => (fa Γ).bind fun ds => if ds.length = n then (match F ds with
  | .ok (.fr (.l rs)) => if newOk (D.nds ds) rs = true then .ok (.fr (.l rs)) else .bad | .ex e => .ex e | _ => .bad) else .bad
def PostN (c : LC) (re : Re Rv) (σ : St) (G H : Hp) (Q : VK) : Prop := match re with
  | .ok (.fr (.l rs)) => ∀ p G' H' xs, Gr G H G' H' → Non H p → G' p = none → H' p = some (.lst xs) → Reps c.K G' xs rs →
      (∀ x ∈ xs, ∃ (q : Addr) (ys : List V) (es : List D), x = .ref q ∧ Non H q ∧ G' q = some (.lst ys) ∧ ys.length = es.length ∧ D.l es ∈ rs) → Q (.ref p) H'
  | .ex e => ∀ G' H', Gr G H G' H' → ExAt c (fun C d H' => c.W C d σ H') e G' H'
  | _ => False
def tEn (c : LC) (f : FE) : TE := fun σ H Q => ∃ G Γ, EnvOk c G H σ Γ ∧ PostN c (f Γ) σ G H Q
theorem reps_mem {K : PySem.W.Frag} {G : Hp} : ∀ {xs : List V} {ds : List D}, Reps K G xs ds → ∀ x ∈ xs, ∃ d ∈ ds, Rep K G x d
  | _, _, .nil, x, hx => by cases hx
  | _, _, .cons h r, x, hx => by
    rcases List.mem_cons.mp hx with rfl | hx
    · exact ⟨_, List.mem_cons_self, h⟩
    · obtain ⟨d, h1, h2⟩ := reps_mem r x hx; exact ⟨d, List.mem_cons_of_mem _ h1, h2⟩
def uni (G G' : Hp) : Hp := fun a => match G a with | some o => some o | none => G' a
theorem uni_l {G G' : Hp} : Same G (uni G G') := fun a o e => by unfold uni; rw [e]
theorem uni_some {G G' : Hp} {a : Addr} {o : HO} (h : uni G G' a = some o) : G a = some o ∨ (G a = none ∧ G' a = some o) := by
  unfold uni at h
  cases e : G a with
  | some u => rw [e] at h; exact .inl h
  | none => rw [e] at h; exact .inr ⟨rfl, h⟩
theorem uni_r {G G' H : Hp} (h : Same G H) (h' : Same G' H) : Same G' (uni G G') := fun a o e => by
  unfold uni
  cases q : G a with
  | none => exact e
  | some u => have := h a u q; rw [h' a o e] at this; exact this.symm ▸ rfl
section
variable {X : Cx} {c : LC} {a b e : Expr} {es : List Expr} {f g h : FE} {fa : FA} {pos : Pos}
theorem re_callN (cy : Cy X c) {x : Str} {p : Pos} {k n : Nat} {F : List D → Re Rv} (h : DefOk X.prog X.w X.K X.mg X.base k x n F) (hr : Room k X.A) (hg : Gl X x) (ha : PA X (e :: es) (tA c fa))
    (hdb : (x == ("__debug__" : Str)) = false := by decide) (he : starEach (e :: es) X.env = (false, eval e X.env) :: starEach es X.env := by rfl) (hpl : (backTo pos (starEach es X.env)).any (·.1) = false := by rfl) :
    PE X (.Call (.Name x p) (e :: es) [] pos) (tEn c (eCallN n F fa)) := by
  obtain ⟨f, fd, ps, h1, h2, h3, h4⟩ := h.ex
  refine PE.weak (pe_callS (E := WE c.W) h4 hr hg h1 h2 h3 (fun σ => L2N.passAt cy.tk σ) ha hdb he hpl) ?_
  rintro σ H Q ⟨G, Γ, hen, q⟩
  unfold eCallN at q
  refine ⟨G, Γ, hen, ?_⟩
  cases eA : fa Γ with
  | bad => rw [eA] at q; exact q
  | ex x => rw [eA] at q; exact q
  | ok ds =>
    rw [eA] at q
    simp only [Re.bind_ok] at q
    intro vs G1 H1 g1 rs
    split at q
    · rename_i hn
      obtain ⟨S, r1, nS⟩ := rs.part
      have ok1 : Ok0 (res G1 S) H1 := ⟨res_sub.trans g1.gh, fun a ps z => g1.gt hen.gt a ps (res_some z).2, g1.tb hen.tb⟩
      refine ⟨res G1 S, ds, hn, ok1, by rw [cy.K]; exact r1, ?_⟩
      cases eF : F ds with
      | bad => rw [eF] at q; exact q
      | ex x =>
        rw [eF] at q
        intro G' H' g' C d hC hd
        have gg : Gr G1 H1 (uni G1 G') H' := ⟨g'.hh, uni_l, fun a o z => by
            rcases uni_some z with z | ⟨_, z⟩
            · exact g'.hh a o (g1.gh a o z) (fun ps e => g1.gt hen.gt a ps (by rw [z, e]))
            · exact g'.gh a o z, fun a o z n => by
            rcases uni_some z with z | ⟨_, z⟩
            · exact z
            · exact (res_some (g'.nw a o z n)).2, fun nt a ps z => by
            rcases uni_some z with z | ⟨_, z⟩
            · exact nt a ps z
            · exact g'.gt ok1.gt a ps z, g'.tb⟩
        have sm : Same G' (uni G1 G') := uni_r (H := H') (fun a o z => g'.hh a o (g1.gh a o z) (fun ps e => g1.gt hen.gt a ps (by rw [z, e]))) g'.gh
        refine q _ H' (g1.trans gg) C d (by rw [← cy.mg]; exact hC) ?_
        cases ef : x.fs with
        | none => rw [ef] at hd; exact hd
        | some fs =>
          rw [ef] at hd
          obtain ⟨p', vs', k1, k2, k3, k4⟩ := hd
          exact ⟨p', vs', k1, k2, k3, by rw [← cy.K]; exact k4.mono sm⟩
      | ok r =>
        rw [eF] at q
        cases r with
        | sh d => exact q.elim
        | bo d => exact q.elim
        | fr d =>
          cases d with
          | l rs' =>
            dsimp only at q
            split at q
            · rename_i hnew
              intro p' G' H' g' hp gp o
              have kg : ∀ a o, G1 a = some o → H' a = some o := fun a o z => g'.hh a o (g1.gh a o z) (fun ps e => g1.gt hen.gt a ps (by rw [z, e]))
              have gg : Gr G1 H1 (uni G1 G') H' := ⟨g'.hh, uni_l, fun a o z => by
                  rcases uni_some z with z | ⟨_, z⟩
                  · exact kg a o z
                  · exact g'.gh a o z, fun a o z n => by
                  rcases uni_some z with z | ⟨_, z⟩
                  · exact z
                  · exact (res_some (g'.nw a o z n)).2, fun nt a ps z => by
                  rcases uni_some z with z | ⟨_, z⟩
                  · exact nt a ps z
                  · exact g'.gt ok1.gt a ps z, g'.tb⟩
              have sm : Same G' (uni G1 G') := uni_r (H := H') kg g'.gh
              cases o with
              | @l xs _ o1 o2 =>
                rw [cy.K] at o2
                have hp1 : uni G1 G' p' = none := by
                  cases z : uni G1 G' p' with
                  | none => rfl
                  | some u =>
                    rcases uni_some z with z | ⟨_, z⟩
                    · exact absurd hp (live_of (g1.gh p' u z) fun ps e => g1.gt hen.gt p' ps (by rw [z, e]))
                    · rw [gp] at z; cases z
                refine q p' (uni G1 G') H' xs (g1.trans gg) (Kept.non g1.hh hp) hp1 o1 (o2.mono sm) fun x hx => ?_
                obtain ⟨d, hd, rd⟩ := reps_mem o2 x hx
                obtain ⟨zs, rfl, hz⟩ := newOk_at hnew d hd
                obtain ⟨q', ys, rfl, k1, k2⟩ := rd.l_inv
                have ey := k2.ints
                subst ey
                refine ⟨q', zs.map .int, zs.map .i, rfl, ?_, sm _ _ k1, by simp, hd⟩
                by_cases nq : Non H1 q'
                · exact Kept.non g1.hh nq
                · obtain ⟨k3, k4⟩ := res_some (g'.nw _ _ k1 nq)
                  obtain ⟨fs, k5, k6⟩ := nS q' k3 _ k4
                  exact absurd (ints_of k6) (hz fs k5)
            · exact q.elim
          | _ => exact q.elim
    · exact q.elim
end
end
end Ly
end

section
set_option maxRecDepth 100000
set_option maxHeartbeats 1000000
namespace Ly
open PySem PySem.Spec L2
open PyProof.Rows hiding St
section
variable [Tb]
def clr (Γ : Env') : Env' := Γ.map fun o => match o with | some (.sh d) => some (.sh d) | _ => none
theorem clr_at {Γ : Env'} {i : Nat} {r : Rv} (h : (clr Γ)[i]? = some (some r)) : ∃ d, r = .sh d ∧ Γ[i]? = some (some (.sh d)) := by
  unfold clr at h
  rw [List.getElem?_map] at h
  cases e : Γ[i]? with
  | none => rw [e] at h; cases h
  | some o =>
    rw [e] at h
    match o, h with
    | some (.sh d), h => cases h; exact ⟨d, rfl, rfl⟩
    | some (.fr d), h => cases h
    | some (.bo d), h => cases h
    | none, h => cases h
def Spoils (j : Nat) (tb : TS) : Prop := ∀ (D : Ends) (σ : St) (H : Hp) (q : Addr) (ys : List V), σ[j]? = some (some (.ref q)) → H q = some (.lst ys) → ys.length < sizeLine →
  (∀ ys' H', ys'.length ≤ ys.length + 1 → (∀ b, ¬ Non H b → H' b = H b) → (LamX.Tabs Tb.T H → LamX.Tabs Tb.T H') → D.nx σ (upd H' q (.lst ys'))) → tb D σ H
def lens (rs : List D) : Bool := rs.all fun d => match d with | .l es => decide (es.length + rs.length < 16777216) | _ => false
theorem lens_at {rs : List D} (h : lens rs = true) {es : List D} (he : D.l es ∈ rs) : es.length + rs.length < 16777216 := by
  have := List.all_eq_true.mp h _ he
  simpa using this
def sSpoil (i j : Nat) (call : FE) (ft : FT) (fr : FE) (rest : FS) : FS := fun Γ => (call Γ).fl Γ fun r => match r with
  | .fr (.l rs) => (ft (Γ.set i (some r))).fl (Γ.set i (some r)) fun b => if b = true then sRet fr (Γ.set i (some r)) else
      if lens rs = true ∧ i < Γ.length ∧ j < Γ.length then rest (((clr Γ).set i none).set j none) else .bad
  | _ => .bad
variable {X : Cx} {c : LC}
structure Spo (H H2 H' : Hp) (qs : List Addr) (k : Nat) (L : Nat) : Prop where
  out : ∀ b, b ∉ qs → ¬ Non H2 b → H' b = H2 b
  ins : ∀ q ∈ qs, ∃ ys, H' q = some (.lst ys) ∧ ys.length ≤ L + k
  tb : LamX.Tabs Tb.T H'
theorem non_eq {H H' : Hp} {b : Addr} (e : H' b = H b) (n : ¬ Non H b) : ¬ Non H' b := fun z => n fun o h => z o (e.trans h)
theorem Spo.step {H H2 H' H'' : Hp} {qs : List Addr} {k L : Nat} (s : Spo H H2 H' qs k L) {q : Addr} (hq : q ∈ qs) {ys ys' : List V} (e : H' q = some (.lst ys)) (l : ys.length ≤ L + k) (l' : ys'.length ≤ ys.length + 1) (he : ∀ b, ¬ Non H' b → H'' b = H' b) (ht : LamX.Tabs Tb.T H' → LamX.Tabs Tb.T H'') : Spo H H2 (upd H'' q (.lst ys')) qs (k + 1) L := by
  refine ⟨fun b hb n => ?_, fun p hp => ?_, tabs_put (ht s.tb) ((he q (live_of e)).trans e) ⟨fun _ z => (by cases z), fun _ z => (by cases z)⟩⟩
  · have : b ≠ q := fun z => hb (z ▸ hq)
    have h1 := s.out b hb n
    rw [upd_ne this, he b (non_eq h1 n)]
    exact h1
  · by_cases z : p = q
    · subst z; exact ⟨ys', upd_same, by omega⟩
    · obtain ⟨zs, h1, h2⟩ := s.ins p hp
      exact ⟨zs, by rw [upd_ne z, he p (live_of h1)]; exact h1, by omega⟩
theorem two_none {Γ : Env'} {i j n : Nat} {r : Rv} (h : ((Γ.set i none).set j none)[n]? = some (some r)) : n ≠ i ∧ n ≠ j ∧ Γ[n]? = some (some r) := by
  by_cases h2 : n = j
  · subst h2
    by_cases hl : n < (Γ.set i none).length
    · rw [List.getElem?_set_self hl] at h; cases h
    · rw [List.getElem?_eq_none (by simpa using hl)] at h; cases h
  · rw [List.getElem?_set_ne (Ne.symm h2)] at h
    by_cases h1 : n = i
    · subst h1
      by_cases hl : n < Γ.length
      · rw [List.getElem?_set_self hl] at h; cases h
      · rw [List.getElem?_eq_none (by simpa using hl)] at h; cases h
    · rw [List.getElem?_set_ne (Ne.symm h1)] at h; exact ⟨h1, h2, h⟩
theorem ret_ends {c : LC} {f : FE} {Γ : Env'} {G : Hp} {D D' : Ends} (h : PostS c (sRet f Γ) G D) (e : D'.rt = D.rt := by rfl) : PostS c (sRet f Γ) G D' := by
  unfold sRet at h ⊢
  cases ef : f Γ with
  | bad => rw [ef] at h; exact h
  | ex x => rw [ef] at h; exact h
  | ok r =>
    rw [ef] at h
    cases r with
    | sh d => exact fun v G' H' a b c d => e ▸ h v G' H' a b c d
    | fr d => exact fun v G' H' a b c d => e ▸ h v G' H' a b c d
    | bo d => exact fun v G' H' a b c d => e ▸ h v G' H' a b c d
theorem sT0 {f : FT} {σ : St} {H G G0 : Hp} {Γ : Env'} {D : Ends} {k : Bool → Fl} {R : Bool → Hp → Prop} (he : EnvOk c G H σ Γ) (sm : Same G0 G) (h : PostS c ((f Γ).fl Γ k) G0 D)
    (hk : ∀ r G' H', Gr G H G' H' → EnvOk c G' H' σ Γ → PostS c (k r) G0 D → R r H') : tT c f σ H R := by
  refine ⟨G, Γ, he, ?_⟩
  cases e : f Γ with
  | bad => rw [e] at h; exact h
  | ex x => rw [e] at h; exact fun G' H' g => h σ G' H' (he.mono g) (sm.trans g.gg)
  | ok r =>
    intro G' H' g
    rw [e] at h
    exact hk r G' H' g (he.mono g) h
theorem rs_spoil (hp : PassesOwn (model X.prog X.w) X.A X.env X.xe) (cy : Cy X c) {i j : Nat} {x y : Str} {px px2 py pos pos2 pos3 pos4 : Pos} {e te re : Expr} {body rest : List Stmt} {call : FE} {ft : FT} {fr : FE} {tb : TS} {w : FS}
    (hij : i ≠ j) (hi : X.N[i]? = some x) (hx : Loc X.env.scope x) (hvx : Vis X.env.scope x) (hj : X.N[j]? = some y) (hy : Loc X.env.scope y) (he : PE X e (tEn c call)) (ht : L2.PT X te (tT c ft)) (hr : PE X re (tE c fr)) (hb : PSs X body tb) (hsp : Spoils j tb) (hw : PSs X rest (tS c w))
    (hd : (x == ("__debug__" : Str)) = false := by decide) (hcd : (x == ("__classdict__" : Str)) = false := by decide)
    (hs : swapsWith e (some (.Name x px)) pos.line X.env = pure false := by rfl) (hf : X.fn x = true ∨ X.env.scope.names.lookup x = some .local := by first | exact .inl rfl | exact .inr rfl)
    (hfy : X.fn y = true ∨ X.env.scope.names.lookup y = some .local := by first | exact .inl rfl | exact .inr rfl)
    (hfs : ∀ z, foldedSetIterable (.Name x px2) X.env z = pure z := by intro _; rfl) :
    PSs X (.Assign [.Name x px] e pos :: .If te [.Return (some re) pos4] [] pos2 :: .For (.Name y py) (.Name x px2) body [] pos3 :: rest) (tS c (sSpoil i j call ft fr w)) := by
  refine PSs.weak (pss_cons (ps_set cy.nd hi hx he hs hf) (pss_cons (ps_if ht (pss_one (rs_ret hr)) pss_nil) (pss_cons (ps_for hp cy.calm (pi_list (pe_var hi hvx hd hcd)) (pg_name cy.nd hj hy hfy) hb hfs) hw))) ?_
  rintro D σ H ⟨G, Γ, en, q⟩
  unfold sSpoil at q
  refine ⟨G, Γ, en, ?_⟩
  cases eC : call Γ with
  | bad => rw [eC] at q; exact q
  | ex z => rw [eC] at q; exact fun G' H' g => q σ G' H' (en.mono g) g.gg
  | ok r =>
    rw [eC] at q
    match r, q with
    | .sh d, q => exact q.elim
    | .bo d, q => exact q.elim
    | .fr (.n), q => exact q.elim
    | .fr (.b _), q => exact q.elim
    | .fr (.i _), q => exact q.elim
    | .fr (.s _), q => exact q.elim
    | .fr (.o _), q => exact q.elim
    | .fr (.t _), q => exact q.elim
    | .fr (.z _), q => exact q.elim
    | .fr (.zt _), q => exact q.elim
    | .fr (.dk _ _), q => exact q.elim
    | .fr (.dt _ _), q => exact q.elim
    | .fr (.l rs), q =>
      intro p G1 H1 xs g1 np gp hp1 rp new
      have ow : Own c.K G1 H1 p (.l rs) := .l hp1 rp
      have he1 := (en.mono g1).setFr i (Kept.non en.bh np) gp ow (en.newTo np)
      show tIfS (tT c ft) _ _ _ (σ.set i (some (.ref p))) H1
      refine sT0 he1 g1.gg q fun b G2 H2 g2 he2 q2 => ?_
      cases b with
      | true =>
        rw [if_pos rfl] at q2 ⊢
        exact ⟨G2, _, he2, PostS.later (g1.gg.trans g2.gg) (ret_ends q2)⟩
      | false =>
        rw [if_neg Bool.false_ne_true] at q2 ⊢
        split at q2
        · rename_i hc
          obtain ⟨hlen, hil, hjl⟩ := hc
          rw [← en.len] at hil hjl
          have hp2 : H2 p = some (.lst xs) := g2.hh _ _ hp1 fun _ z => by cases z
          have rp2 := rp.mono g2.gg
          let qs : List Addr := xs.filterMap fun x => match x with | .ref q => some q | _ => none
          have qsm : ∀ q, q ∈ qs → ∃ (ys : List V) (es : List Ly.D), Non H q ∧ H2 q = some (.lst ys) ∧ ys.length = es.length ∧ Ly.D.l es ∈ rs := fun q hq => by
            obtain ⟨x, hx1, hx2⟩ := List.mem_filterMap.mp hq
            obtain ⟨q', ys, es, rfl, k1, k2, k3, k4⟩ := new x hx1
            cases hx2
            exact ⟨ys, es, k1, he2.gh _ _ (g2.gg _ _ k2), k3, k4⟩
          have qsx : ∀ x ∈ xs, ∃ q, x = .ref q ∧ q ∈ qs := fun x hx1 => by
            obtain ⟨q', ys, es, rfl, k1, k2, k3, k4⟩ := new x hx1
            exact ⟨q', rfl, List.mem_filterMap.mpr ⟨_, hx1, rfl⟩⟩
          have xl : xs.length = rs.length := rp.length
          have pq : p ∉ qs := fun h => by
            obtain ⟨x, hx1, hx2⟩ := List.mem_filterMap.mp h
            obtain ⟨q', ys, es, rfl, k1, k2, k3, k4⟩ := new x hx1
            cases hx2
            rw [gp] at k2
            cases k2
          refine ⟨_, List.getElem?_set_self hil, p, rfl, ⟨xs, .of hp2⟩, ?_⟩
          refine ⟨fun k m σ' H' => m = xs.length - k ∧ k ≤ xs.length ∧ σ'.length = σ.length ∧ (∀ n, n ≠ i → n ≠ j → σ'[n]? = σ[n]?) ∧ Spo H H2 H' qs k (16777215 - xs.length), ⟨xs.length, by simp, Nat.zero_le _, by simp, fun n h1 h2 => List.getElem?_set_ne (Ne.symm h1), fun _ _ _ => rfl, fun q hq => ?_, he2.tb⟩, ?_⟩
          · obtain ⟨ys, es, _, e1, e3, e2⟩ := qsm q hq
            have := lens_at hlen e2
            exact ⟨_, e1, by omega⟩
          rintro k m σ' H' ⟨rfl, hk, sl, sa, sp⟩
          have hp' : H' p = some (.lst xs) := by rw [sp.out p pq (live_of hp2)]; exact hp2
          by_cases hlt : k < xs.length
          · refine .inr ⟨⟨xs, xs[k], by rw [cy.K]; exact .of hp', List.getElem?_eq_getElem hlt⟩, fun σ2 H3 => σ2.length = σ.length ∧ (∀ n, n ≠ i → n ≠ j → σ2[n]? = σ[n]?) ∧ Spo H H2 H3 qs (k + 1) (16777215 - xs.length), fun σ2 H3 hN => ⟨xs.length - (k + 1), by omega, rfl, hlt, hN.1, hN.2.1, hN.2.2⟩, ?_⟩
            rintro v H3 ⟨rfl, hv⟩
            have ev := hv xs (by rw [cy.K]; exact .of hp')
            rw [List.getElem?_eq_getElem hlt] at ev
            cases ev
            obtain ⟨q', hq1, hq2⟩ := qsx _ (List.getElem_mem hlt)
            obtain ⟨ys, hy1, hy2⟩ := sp.ins q' hq2
            rw [hq1]
            have hj' : j < σ'.length := by rw [sl]; exact hjl
            have hrl : rs.length < 16777216 := by
              obtain ⟨_, _, _, _, _, e2⟩ := qsm q' hq2
              have := lens_at hlen e2
              omega
            refine hsp _ (σ'.set j (some (.ref q'))) H3 q' ys (List.getElem?_set_self hj') hy1 (by rw [sizeLine_eq]; omega) fun ys' H4 hl h4 t4 => ?_
            refine ⟨by simpa using sl, fun n h1 h2 => ?_, sp.step hq2 hy1 hy2 hl h4 t4⟩
            rw [List.getElem?_set_ne (Ne.symm h2)]
            exact sa n h1 h2
          · refine .inl ⟨⟨xs, by rw [cy.K]; exact .of hp', by omega⟩, ?_⟩
            have nq : ∀ b, ¬ Non H b → H' b = H2 b := fun b hb => sp.out b (fun h => by
              obtain ⟨_, _, k1, _, _, _⟩ := qsm b h
              exact hb k1) fun z => hb (Kept.non (g1.trans g2).hh z)
            have gh' : Same G H' := fun a o z => by
              have h0 := en.gh a o z
              have ht : ∀ ps, o ≠ .tbl ps := fun ps e => en.gt a ps (by rw [z, e])
              rw [nq a (live_of h0 ht)]
              exact g2.hh a o (g1.hh a o h0 ht) ht
            have bh' : Kept c.B H' := fun a o z ht => by
              have h0 := en.bh a o z ht
              rw [nq a (live_of h0 ht)]
              exact g2.hh a o (g1.hh a o h0 ht) ht
            refine ⟨G, ((clr Γ).set i none).set j none, ⟨bh', en.g0, gh', en.gf, en.gt, sp.tb, ?_, fun n r hn => ?_, fun n n' d d' a hn hn' => ?_⟩, ?_⟩
            · rw [sl, en.len]; simp [clr]
            · obtain ⟨n1, n2, hn⟩ := two_none hn
              obtain ⟨d, rfl, hd⟩ := clr_at hn
              obtain ⟨v, h1, h2, h3⟩ := en.at' n _ hd
              exact ⟨v, by rw [sa n n1 n2]; exact h1, h2, h3⟩
            · obtain ⟨_, _, hn⟩ := two_none hn
              obtain ⟨d, e, _⟩ := clr_at hn
              cases e
            · exact q2
        · exact q2.elim
theorem sp_app {j : Nat} {y : Str} {py apos cpos pos cp : Pos} {z : Int} {jj : Nat} (hN : X.N[j]? = some y) (hv : Vis X.env.scope y)
    (hd : (y == ("__debug__" : Str)) = false := by decide) (hcd : (y == ("__classdict__" : Str)) = false := by decide)
    (hsw : swapsWith (.Call (.Attribute (.Name y py) "append" apos) [.Constant (.int z) jj cp] [] cpos) none pos.line X.env = pure false := by rfl)
    (hbase : attributeBase (.Name y py) "append" X.env (eval (.Name y py) X.env) = eval (.Name y py) X.env := by rfl)
    (hfew : ((backTo cpos (starEach [.Constant (.int z) jj cp] X.env)).all (fun x => !x.1) && (backToKw cpos (keywordEach [] X.env)).all (fun x => x.1.isSome)
      && decide ([Expr.Constant (.int z) jj cp].length + ([] : List Keyword).length + (if ([] : List Keyword).isEmpty then 0 else 1) < 30)) = true := by rfl)
    (hline : (apos.endLine == cpos.line) = true := by rfl) (hs : starEach [.Constant (.int z) jj cp] X.env = [(false, eval (.Constant (.int z) jj cp) X.env)] := by rfl) :
    ∃ tb, PSs X [.Expr (.Call (.Attribute (.Name y py) "append" apos) [.Constant (.int z) jj cp] [] cpos) pos] tb ∧ Spoils j tb := by
  refine ⟨_, pss_one (ps_expr (pe_bm PySem.F.plainAttrs_list PySem.F.slot_list_append PySem.F.type_list_append mt_append (pe_var hN hv hd hcd) (pa_cons pe_int pa_nil hs) hbase hfew hline hs) hsw), ?_⟩
  intro D σ H q ys e1 e2 hl hq
  refine ⟨_, e1, .inl ⟨rfl, _, SqL.of e2⟩, ?_⟩
  exact ⟨q, ys, .int z, rfl, rfl, e2, hl, hq _ H (by simp) (fun _ _ => rfl) id⟩
theorem sp_clear {j : Nat} {y : Str} {py apos cpos pos : Pos} (hN : X.N[j]? = some y) (hv : Vis X.env.scope y)
    (hd : (y == ("__debug__" : Str)) = false := by decide) (hcd : (y == ("__classdict__" : Str)) = false := by decide)
    (hsw : swapsWith (.Call (.Attribute (.Name y py) "clear" apos) [] [] cpos) none pos.line X.env = pure false := by rfl)
    (hbase : attributeBase (.Name y py) "clear" X.env (eval (.Name y py) X.env) = eval (.Name y py) X.env := by rfl)
    (hline : (apos.endLine == cpos.line) = true := by rfl) :
    ∃ tb, PSs X [.Expr (.Call (.Attribute (.Name y py) "clear" apos) [] [] cpos) pos] tb ∧ Spoils j tb := by
  refine ⟨_, pss_one (ps_expr (pe_bm0 PySem.F.plainAttrs_list PySem.F.slot_list_clear PySem.F.type_list_clear mt_clear (pe_var hN hv hd hcd) hbase hline) hsw), ?_⟩
  intro D σ H q ys e1 e2 hl hq
  refine ⟨_, e1, .inl ⟨rfl, _, SqL.of e2⟩, ?_⟩
  exact ⟨q, ys, rfl, rfl, e2, hq _ H (by simp) (fun _ _ => rfl) id⟩
end
end Ly
end

section
set_option maxRecDepth 100000
set_option maxHeartbeats 1000000
namespace Ly
open PySem PySem.Spec L2
open PyProof.Rows hiding St
section
variable {m : Nat} {L : Lk} {k k1 k2 : Kd} {α β τ ω : Type} {f g fr : FE} {ft : FT} {fa : FA} {w : FS} {P : ω → Fl → Prop} {i j : Nat}
abbrev eLL : List (List Int) → D := eL (eL eI)
def spT (N : List (List D)) (x : Re (List (List Int))) : Re (List (List Int)) := x.bind fun rs => if newOk N (rs.map (eL eI)) = true then .ok rs else .bad
def lensT (rs : List (List Int)) : Bool := lens (rs.map (eL eI))
theorem newOk_is {N : List (List D)} : ∀ {rs : List (List Int)}, (∀ zs ∈ rs, ∀ fs ∈ N, D.ints fs ≠ some zs) → newOk N (rs.map (eL eI)) = true
  | [], _ => rfl
  | zs :: rs, h => by
    rw [List.map_cons]
    show ((match D.ints (zs.map eI) with | some ws => N.all fun fs => decide (D.ints fs ≠ some ws) | none => false) && newOk N (rs.map (eL eI))) = true
    have e : D.ints (zs.map eI) = some zs := D.ints_map zs
    rw [e]
    have h1 : (N.all fun fs => decide (D.ints fs ≠ some zs)) = true := List.all_eq_true.mpr fun fs hf => decide_eq_true (h zs List.mem_cons_self fs hf)
    show ((N.all fun fs => decide (D.ints fs ≠ some zs)) && newOk N (rs.map (eL eI))) = true
    rw [h1, newOk_is fun ws hw => h ws (List.mem_cons_of_mem _ hw)]
    rfl
theorem spT_ok {N : List (List D)} {rs : List (List Int)} (h : ∀ zs ∈ rs, ∀ fs ∈ N, D.ints fs ≠ some zs) : spT N (.ok rs) = .ok rs := by
  show (if newOk N (rs.map (eL eI)) = true then Re.ok rs else Re.bad) = _
  rw [if_pos (newOk_is h)]
theorem lensT_ok {rs : List (List Int)} (h : ∀ zs ∈ rs, zs.length + rs.length < 16777216) : lensT rs = true := by
  unfold lensT lens
  rw [List.all_eq_true]
  intro d hd
  obtain ⟨zs, hz, rfl⟩ := List.mem_map.mp hd
  simpa using h zs hz
def CN (m : Nat) (L : Lk) (x : Re (List (List Int))) (call : FE) : Prop := ER m L .fr eLL x call
theorem cn_call {n : Nat} {F : List D → Re Rv} {ds : List D} {x : Re (List (List Int))} (ha : AR m L ds fa) (hn : ds.length = n) (hF : RE1 .fr eLL x (F ds)) : ER m L .fr eLL (spT (D.nds ds) x) (eCallN n F fa) := fun Γ hΓ => by
  unfold eCallN
  rw [ha Γ hΓ, Re.bind_ok, if_pos hn]
  cases x with
  | ok rs =>
    have hF : F ds = .ok (.fr (.l (rs.map (eL eI)))) := hF
    rw [hF]
    show RE1 .fr eLL (if newOk (D.nds ds) (rs.map (eL eI)) = true then Re.ok rs else Re.bad) _
    by_cases h : newOk (D.nds ds) (rs.map (eL eI)) = true
    · rw [if_pos h]; dsimp only; rw [if_pos h]; rfl
    · rw [if_neg h]; trivial
  | ex z => have hF : F ds = .ex z := hF; rw [hF]; rfl
  | bad => trivial
def SpL (i j : Nat) (L L' : Lk) : Prop := ∀ k r, lk k L' = some r → k ≠ i ∧ k ≠ j ∧ (∃ d, r = .sh d) ∧ lk k L = some r
theorem sp_n : SpL i j L [] := fun k r h => by cases h
theorem sp_c {k : Nat} {d : D} {L' : Lk} (h : lk k L = some (.sh d)) (hi : k ≠ i) (hj : k ≠ j) (h' : SpL i j L L') : SpL i j L ((k, .sh d) :: L') := fun n r hn => by
  rw [lk_cons] at hn
  by_cases e : n = k
  · subst e; rw [if_pos rfl] at hn; cases hn; exact ⟨hi, hj, ⟨d, rfl⟩, h⟩
  · rw [if_neg e] at hn; exact h' n r hn
theorem bg_spoil {x : Re (List (List Int))} {t : List (List Int) → Re Bool} {K : List (List Int) → Re ω} {L' : Lk} {call : FE} (hi : i < m) (hj : j < m) (hs : SpL i j L L') (hc : ER m L .fr eLL x call) (ht : ∀ rs, TR m ((i, .fr (eLL rs)) :: L) (t rs) ft) (hw : ∀ rs, BG m L' P (K rs) w) :
    BG m L P (x.bind fun rs => (t rs).bind fun b => if b = true then Re.bad else if lensT rs = true then K rs else Re.bad) (sSpoil i j call ft fr w) := fun Γ hΓ => by
  have h1 := hc Γ hΓ
  unfold sSpoil
  cases x with
  | ex z => have h1 : call Γ = .ex z := h1; rw [h1]; exact ⟨Γ, rfl⟩
  | bad => trivial
  | ok rs =>
    have h1 : call Γ = .ok (.fr (.l (rs.map (eL eI)))) := h1
    have h2 := ht rs _ (hΓ.set hi (.fr (eLL rs)))
    rw [h1]
    show RS P ((t rs).bind fun b => if b = true then Re.bad else if lensT rs = true then K rs else Re.bad) ((ft (Γ.set i (some (.fr (eLL rs))))).fl _ _)
    cases et : t rs with
    | ex z =>
      rw [et] at h2
      have h2 : ft _ = .ex z := h2
      rw [h2]; exact ⟨_, rfl⟩
    | bad => trivial
    | ok b =>
      rw [et] at h2
      have h2 : ft _ = .ok b := h2
      rw [h2]
      cases b with
      | true => trivial
      | false =>
        show RS P (if lensT rs = true then K rs else Re.bad) (if lens (rs.map (eL eI)) = true ∧ i < Γ.length ∧ j < Γ.length then w _ else Fl.bad)
        by_cases hl : lensT rs = true
        · rw [if_pos hl, if_pos ⟨hl, by rw [hΓ.len]; exact hi, by rw [hΓ.len]; exact hj⟩]
          refine hw rs _ ⟨by simp [clr, hΓ.len], fun n r hn => ?_⟩
          obtain ⟨n1, n2, ⟨d, rfl⟩, h3⟩ := hs n r hn
          rw [List.getElem?_set_ne (Ne.symm n2), List.getElem?_set_ne (Ne.symm n1)]
          unfold clr
          rw [List.getElem?_map, hΓ.at' n _ h3]
          rfl
        · rw [if_neg hl]; trivial
end
section
variable [Tb] {X : Cx} {c : LC}
theorem rs_spoil' (hp : PassesOwn (model X.prog X.w) X.A X.env X.xe) (cy : Cy X c) {i j : Nat} {x y : Str} {px px2 py pos pos2 pos3 pos4 : Pos} {e te re : Expr} {body rest : List Stmt} {call : FE} {ft : FT} {fr : FE} {w : FS}
    (hij : i ≠ j) (hi : X.N[i]? = some x) (hx : Loc X.env.scope x) (hvx : Vis X.env.scope x) (hj : X.N[j]? = some y) (hy : Loc X.env.scope y) (he : PE X e (tEn c call)) (ht : L2.PT X te (tT c ft)) (hr : PE X re (tE c fr)) (hb : ∃ tb, PSs X body tb ∧ Spoils j tb) (hw : PSs X rest (tS c w))
    (hd : (x == ("__debug__" : Str)) = false := by decide) (hcd : (x == ("__classdict__" : Str)) = false := by decide)
    (hs : swapsWith e (some (.Name x px)) pos.line X.env = pure false := by rfl) (hf : X.fn x = true ∨ X.env.scope.names.lookup x = some .local := by first | exact .inl rfl | exact .inr rfl)
    (hfy : X.fn y = true ∨ X.env.scope.names.lookup y = some .local := by first | exact .inl rfl | exact .inr rfl)
    (hfs : ∀ z, foldedSetIterable (.Name x px2) X.env z = pure z := by intro _; rfl) :
    PSs X (.Assign [.Name x px] e pos :: .If te [.Return (some re) pos4] [] pos2 :: .For (.Name y py) (.Name x px2) body [] pos3 :: rest) (tS c (sSpoil i j call ft fr w)) := by
  obtain ⟨tb, h1, h2⟩ := hb
  exact rs_spoil hp cy hij hi hx hvx hj hy he ht hr h1 h2 hw hd hcd hs hf hfy hfs
end
end Ly
end

section
set_option maxRecDepth 100000
set_option maxHeartbeats 1000000
namespace Ly
open PySem PySem.Spec L2
open PyProof.Rows hiding St
variable [Tb]
section
variable {X : Cx} {c : LC} {a b e tg : Expr} {f g h : FE} {u : FS} {pos : Pos} {body : List Stmt}
def kLenT : Rv → Re Rv := fun x => match x with
  | .fr (.dt ks _) => oki ks.length
  | .bo (.dt ks _) => oki ks.length
  | _ => .bad
theorem re_lenT (cy : Cy X c) {p : Pos} (hg : Gl X "len") (hm : X.mg "len" = none) (ha : PE X a (tE c f)) (hs : starEach [a] X.env = [(false, eval a X.env)] := by rfl) : PE X (.Call (.Name "len" p) [a] [] pos) (tE c (e1 kLenT f)) := by
  refine re_b1 (r := rLenT) call_len_dT ?_ hg hm boot_len ha (by decide) (by decide) hs
  intro σ G H x rx Q gh bh hx q
  have main : ∀ (p : Addr) (ks : List (List Key)) (ds : List D), Own c.K G H p (.dt ks ds) → Post c (oki ks.length) σ G H Q → rLenT [.ref p] H Q := by
    intro p ks ds o q
    cases o with
    | dt h1 h2 h3 =>
      subst h2
      refine ⟨p, _, rfl, h1, ?_⟩
      rw [List.length_map] at q
      exact post_sh gh q (.i _)
  unfold kLenT at q
  split at q
  · rename_i ks ds
    obtain ⟨p, rfl, _, _, o⟩ := hx
    exact main p ks ds o q
  · rename_i ks ds
    obtain ⟨p, rfl, _, _, o⟩ := hx
    exact main p ks ds o q
  · exact q.elim
theorem EnvOk.lockT {G H : Hp} {σ : St} {Γ : Env'} (he : EnvOk c G H σ Γ) {i : Nat} {ks : List (List Key)} {ds : List D} (hi : Γ[i]? = some (some (.fr (.dt ks ds)))) :
    ∃ (p : Addr) (kvs : List (List Key × V)), σ[i]? = some (some (.ref p)) ∧ H p = some (.dT kvs) ∧ ks = kvs.map (·.1) ∧ G p = none ∧ ∀ od, EnvOk c (upd G p (.frz od (.dT kvs))) (upd H p (.frz od (.dT kvs))) σ (Γ.set i (some (.sh (.dt ks ds)))) := by
  obtain ⟨v, h1, ⟨p, rfl, bp, gp, o⟩, _⟩ := he.at' i _ hi
  cases o with
  | @dt kvs _ _ hp hk rs =>
    refine ⟨p, kvs, h1, hp, hk, gp, fun od => ?_⟩
    have sm : Same G (upd G p (.frz od (.dT kvs))) := fun b x q => by rw [upd_ne (ne_of_none q gp)]; exact q
    refine ⟨Kept.upd he.bh bp, he.g0.trans sm, fun b x q => ?_, fun b x q n => ?_, he.gt.upd (fun _ z => by cases z), tabs_put he.tb hp ⟨fun _ z => (by cases z), fun _ z => (by cases z)⟩, by simpa using he.len, fun j r hj => ?_, fun j k x y q hj hk sj sk => ?_⟩
    · by_cases hb : b = p
      · subst hb; rw [upd_same] at q ⊢; exact q
      · rw [upd_ne hb] at q ⊢; exact he.gh b x q
    · by_cases hb : b = p
      · subst hb; exact absurd bp n
      · rw [upd_ne hb] at q; exact he.gf b x q n
    · rcases set_get hj with ⟨rfl, rfl, hl⟩ | ⟨hne, hj⟩
      · exact ⟨.ref p, h1, Rep.dt (.inr ⟨od, upd_same⟩) hk (rs.mono sm), fun _ z => by cases z⟩
      · obtain ⟨v', h1', h2', h3'⟩ := he.at' j r hj
        refine ⟨v', h1', ?_, h3'⟩
        cases r with
        | sh d' => exact Rep.mono sm h2'
        | fr d' =>
          obtain ⟨p', rfl, bp', gp', o'⟩ := h2'
          have np : p' ≠ p := fun z => by subst z; exact hne (he.sep j i _ _ p' hj hi h1' h1)
          refine ⟨p', rfl, bp', by rw [upd_ne np]; exact gp', ?_⟩
          cases o' with
          | l w1 w2 => exact .l (by rw [upd_ne np]; exact w1) (w2.mono sm)
          | dk w1 w2 w3 => exact .dk (by rw [upd_ne np]; exact w1) w2 (w3.mono sm)
          | dt w1 w2 w3 => exact .dt (by rw [upd_ne np]; exact w1) w2 (w3.mono sm)
        | bo d' => exact absurd rfl (h3' d')
    · rcases set_get hj with ⟨_, z, _⟩ | ⟨nj, hj⟩
      · cases z
      · rcases set_get hk with ⟨_, z, _⟩ | ⟨nk, hk⟩
        · cases z
        · exact he.sep j k x y q hj hk sj sk
def WalkT (G : Hp) (J : It) (ks : List (List Key)) : Prop := ∀ (G1 H1 : Hp), Same G G1 → Same G1 H1 → (∀ (i : Nat) (k : List Key), ks[i]? = some k → J.go i H1 ∧ ∀ x H2, J.yld i H1 x H2 → H2 = H1 ∧ ∃ q, x = .ref q ∧ H1 q = some (.tup (k.map kV))) ∧ (∀ i, ks.length ≤ i → J.stop i H1)
theorem walk_keysT {G : Hp} {d : Addr} {o : Obj} {kvs : List (List Key × V)} (h : G d = some (.frz o (.dT kvs))) : WalkT G (Itkt d o kvs) (kvs.map (·.1)) := by
  intro G1 H1 s1 s2
  refine ⟨fun i k hi => ?_, fun i hi => ⟨s2 _ _ (s1 _ _ h), by simpa using hi⟩⟩
  rw [List.getElem?_map] at hi
  obtain ⟨⟨k', v⟩, hkv, rfl⟩ := Option.map_eq_some_iff.mp hi
  refine ⟨⟨s2 _ _ (s1 _ _ h), (List.getElem?_eq_some_iff.mp hkv).1⟩, ?_⟩
  rintro x H2 ⟨rfl, k2, v2, q, e2, rfl, hq⟩
  rw [hkv] at e2
  cases e2
  exact ⟨rfl, q, rfl, hq⟩
theorem reps_keys {K : PySem.W.Frag} {G : Hp} : ∀ ks : List Key, Reps K G (ks.map kV) (ks.map keyD)
  | [] => .nil
  | .inl z :: ks => .cons (.i z) (reps_keys ks)
  | .inr z :: ks => .cons (.s z) (reps_keys ks)
theorem for_loopT {J : It} {ks : List (List Key)} {is : List Nat} {G1 H1 : Hp} {σ : St} {Γ : Env'} {D : Ends} (he : EnvOk c G1 H1 σ Γ) (w : WalkT G1 J ks) (q : PostS c (forL (.tup is) u (ks.map fun k => Ly.D.t (k.map keyD)) Γ) G1 D) :
    ∃ W : Nat → Nat → St → Hp → Prop, (∃ m, W 0 m σ H1) ∧ ∀ i m σ H, W i m σ H → (J.stop i H ∧ D.nx σ H) ∨ (J.go i H ∧ ∃ N : St → Hp → Prop, (∀ σ' H', N σ' H' → ∃ m', m' < m ∧ W (i + 1) m' σ' H') ∧
      ∀ x H', J.yld i H x H' → (Tg.tup is).tgt c.K x σ H' fun σ2 H2 => tS c u { D with nx := N, ct := N, bk := D.nx } σ2 H2) := by
  generalize hds : (ks.map fun k => Ly.D.t (k.map keyD)) = ds at q
  have hlen : ds.length = ks.length := by rw [← hds, List.length_map]
  refine ⟨fun i m σ' H' => m = ds.length - i ∧ i ≤ ds.length ∧ ∃ Gi Γi, EnvOk c Gi H' σ' Γi ∧ Same G1 Gi ∧ PostS c (forL (.tup is) u (ds.drop i) Γi) Gi D,
    ⟨ds.length, by simp, Nat.zero_le _, G1, Γ, he, Same.refl _, q⟩, ?_⟩
  rintro i m σ' H' ⟨rfl, hi, Gi, Γi, hei, si, qi⟩
  obtain ⟨w1, w2⟩ := w Gi H' si hei.gh
  by_cases hl : i < ds.length
  · obtain ⟨k, hk⟩ : ∃ k, ks[i]? = some k := ⟨ks[i], List.getElem?_eq_getElem (by omega)⟩
    have hd : ds[i]? = some (Ly.D.t (k.map keyD)) := by rw [← hds, List.getElem?_map, hk]; rfl
    have hdrop : ds.drop i = Ly.D.t (k.map keyD) :: ds.drop (i + 1) := by
      rw [List.drop_eq_getElem_cons hl]
      congr 1
      simpa [hl] using hd
    rw [hdrop] at qi
    obtain ⟨go, yl⟩ := w1 i k hk
    refine .inr ⟨go, fun σ'' H'' => ∃ Gj Γj, EnvOk c Gj H'' σ'' Γj ∧ Same G1 Gj ∧ PostS c (forL (.tup is) u (ds.drop (i + 1)) Γj) Gj D,
      fun σ'' H'' ⟨Gj, Γj, hej, sj, qj⟩ => ⟨ds.length - (i + 1), by omega, rfl, hl, Gj, Γj, hej, sj, qj⟩, fun x H2 hy => ?_⟩
    obtain ⟨rfl, p, rfl, hp⟩ := yl x H2 hy
    unfold forL at qi
    cases et : (Tg.tup is).set (Ly.D.t (k.map keyD)) Γi with
    | none => rw [et] at qi; exact qi.elim
    | some Γ1 =>
      rw [et] at qi
      have et' : setN is (k.map keyD) Γi = some Γ1 := et
      refine ⟨p, _, rfl, SqT.of hp, by have z := setN_length et'; rw [List.length_map] at z ⊢; omega, gNames_ok hei (reps_keys k) et' fun σ2 he3 _ => ⟨Gi, Γ1, he3, ?_⟩⟩
      have qi : PostS c (match u Γ1 with | .nx Γ' => forL (.tup is) u (ds.drop (i + 1)) Γ' | .ct Γ' => forL (.tup is) u (ds.drop (i + 1)) Γ' | .bk Γ' => .nx Γ' | .rt r => .rt r | .ex e Γ' => .ex e Γ' | .bad => .bad) Gi D := qi
      cases eu : u Γ1 with
      | nx Γ' => rw [eu] at qi; exact fun σ3 G3 H3 he4 s3 => ⟨G3, Γ', he4, si.trans s3, PostS.later s3 qi⟩
      | ct Γ' => rw [eu] at qi; exact fun σ3 G3 H3 he4 s3 => ⟨G3, Γ', he4, si.trans s3, PostS.later s3 qi⟩
      | bk Γ' => rw [eu] at qi; exact qi
      | rt r => rw [eu] at qi; exact qi
      | ex x Γ' => rw [eu] at qi; exact qi
      | bad => rw [eu] at qi; exact qi
  · have ei : i = ds.length := by omega
    subst ei
    refine .inl ⟨w2 _ (by omega), ?_⟩
    rw [List.drop_length] at qi
    exact qi σ' Gi H' hei (Same.refl _)
def sForT (i : Nat) (is : List Nat) (u : FS) : FS := fun Γ => match Γ[i]? with
  | some (some (.fr (.dt ks ds))) => forL (.tup is) u (ks.map fun k => D.t (k.map keyD)) (Γ.set i (some (.sh (.dt ks ds))))
  | _ => .bad
theorem rs_forT (hp : PassesOwn (model X.prog X.w) X.A X.env X.xe) (cy : Cy X c) {i : Nat} {x : Str} {p' : Pos} {is : List Nat} (hN : X.N[i]? = some x) (hv : Vis X.env.scope x) (hg : PG X tg ((Tg.tup is).tgt c.K)) (hb : PSs X body (tS c u))
    (hd : (x == ("__debug__" : Str)) = false := by decide) (hcd : (x == ("__classdict__" : Str)) = false := by decide)
    (hs : ∀ y, foldedSetIterable (.Name x p') X.env y = pure y := by intro _; rfl) : PS X (.For tg (.Name x p') body [] pos) (tS c (sForT i is u)) := by
  have h1 : PS X (.For tg (.Name x p') body [] pos) (tFor (iKeys (tVar i)) ((Tg.tup is).tgt c.K) (tS c u)) := ps_for hp cy.calm (pi_keys (pe_var hN hv hd hcd)) hg hb hs
  refine PS.weak (ps_lock0 h1) ?_
  rintro D σ H ⟨G, Γ, he, q⟩
  unfold sForT at q
  split at q
  · rename_i ks ds hi
    obtain ⟨p, kvs, e1, e2, e3, e4, e5⟩ := he.lockT hi
    subst e3
    refine ⟨p, _, e2, True.intro, fun od => ⟨.ref p, e1, p, od, rfl, .inr ⟨kvs, upd_same, ?_⟩⟩⟩
    exact for_loopT (e5 od) (walk_keysT upd_same) (PostS.later (fun b x z => by rw [upd_ne (ne_of_none z e4)]; exact z) q)
  · exact q.elim
end
end Ly
namespace Ly
open PySem PySem.Spec L2
open PyProof.Rows hiding St
section
variable {m : Nat} {L : Lk} {k k1 k2 k3 k4 k5 : Kd} {α β γ δ ε τ ω S : Type} {e : τ → D} {ea : α → D} {eb : β → D} {f g h : FE} {u w : FS} {P : ω → Fl → Prop} {i : Nat} {t : Tg}
abbrev keyP (p : Int × Int) : List Key := [.inl p.1, .inl p.2]
abbrev eDp (e : α → D) : List ((Int × Int) × α) → D := fun A => .dt (A.map fun p => keyP p.1) (A.map fun p => e p.2)
theorem keyP_inj : ∀ a b : Int × Int, keyP a = keyP b → a = b := fun a b h => by
  unfold keyP at h
  injection h with h1 h2
  injection h2 with h2 _
  exact Prod.ext (Sum.inl.inj h1) (Sum.inl.inj h2)
theorem er_dp0 {α : Type} {ea : α → D} : ER m L .fr (eDp ea) (.ok []) eDt0 := fun _ _ => rfl
theorem o_inDpF {a : Int × Int} {A : List ((Int × Int) × α)} : RE1 .sh eB (.ok (alook A a).isSome) (kIn false (k1.v (eP2 eI eI a)) (k2.v (eDp ea A))) := by
  show kIn _ _ _ = _
  unfold kIn inD
  rw [Kd.v_d, Kd.v_d]
  dsimp only [dlook, D.keys?, D.key?, Option.map_some]
  have := kget_map (ea := ea) keyP_inj A a
  unfold keyP at this
  rw [this]
  cases alook A a <;> rfl
theorem o_dgetP {a : Int × Int} {A : List ((Int × Int) × α)} : RE1 .sh ea (dgetT A a) (kDget (k1.v (eDp ea A)) (k2.v (eP2 eI eI a))) := by
  unfold dgetT
  split
  · rename_i v hv
    show kDget _ _ = _
    unfold kDget
    rw [Kd.v_d, Kd.v_d]
    dsimp only [dlook, D.keys?, D.key?, Option.map_some]
    have := kget_map (ea := ea) keyP_inj A a
    unfold keyP at this
    rw [this, hv]
    rfl
  · trivial
theorem o_lenP {A : List ((Int × Int) × α)} (hk : k1 ≠ .sh) : RE1 .sh eI (.ok (A.length : Int)) (kLenT (k1.v (eDp ea A))) := by
  cases k1 with
  | sh => exact absurd rfl hk
  | fr => show oki _ = _; rw [List.length_map]; rfl
  | bo => show oki _ = _; rw [List.length_map]; rfl
@[irreducible] def dputP (A : List ((Int × Int) × α)) (n : Int × Int) (v : α) : Re (List ((Int × Int) × α)) := if A.length < 16777216 then .ok (aput A n v) else .bad
theorem dputP_ok {A : List ((Int × Int) × α)} {n : Int × Int} {v : α} (h : A.length < 16777216) : dputP A n v = .ok (aput A n v) := by unfold dputP; exact if_pos h
theorem bg_dputP {A : List ((Int × Int) × α)} {x : Re α} {y : Re (Int × Int)} {K : List ((Int × Int) × α) → Re ω} (hl : lk i L = some (.fr (eDp ea A))) (hk : k.ok = true) (hx : ER m L k ea x g) (hy : ER m L k1 (eP2 eI eI) y f) (h : ∀ B, BG m ((i, .fr (eDp ea B)) :: L) P (K B) w) : BG m L P (x.bind fun a => y.bind fun n => (dputP A n a).bind K) (sSeq (sDput i f g) w) := fun Γ hΓ => by
  have h1 := hx Γ hΓ
  have h3 := hy Γ hΓ
  have h2 := hΓ.at' i _ hl
  have hi : i < m := by rw [← hΓ.len]; exact (List.getElem?_eq_some_iff.mp h2).1
  have e0 : sDput i f g Γ = (g Γ).fl Γ fun r => (share r).fl Γ fun d => (f Γ).fl Γ fun k => (match dput (eDp ea A) k.d d with | some t' => .nx (Γ.set i (some (.fr t'))) | none => .bad) := by
    unfold sDput
    rw [h2]
    all_goals rfl
  unfold sSeq
  rw [e0]
  cases x with
  | ok a =>
    have h1 : g Γ = .ok _ := h1
    rw [h1, fl_ok, Kd.share hk, fl_ok]
    cases y with
    | ok n =>
      have h3 : f Γ = .ok _ := h3
      rw [h3, fl_ok, Kd.v_d]
      show RS P ((dputP A n a).bind K) _
      unfold dputP
      by_cases hn : A.length < 16777216
      · rw [if_pos hn]
        have e1 : dput (eDp ea A) (eP2 eI eI n) (ea a) = some (eDp ea (aput A n a)) := by
          show (if (A.map fun p => keyP p.1).length < 16777216 then (match eP2 eI eI n with | .t kd => (D.keys? kd).map fun k => D.dt (kput (A.map fun p => keyP p.1) (A.map fun p => ea p.2) k (ea a)).1 (kput (A.map fun p => keyP p.1) (A.map fun p => ea p.2) k (ea a)).2 | _ => none) else none) = _
          rw [if_pos (by simpa using hn)]
          dsimp only [D.keys?, D.key?, Option.map_some]
          have := kput_map (ea := ea) keyP_inj A n a
          rw [this]
        rw [e1]
        exact h _ _ (hΓ.set hi _)
      · rw [if_neg hn]; trivial
    | ex z => have h3 : f Γ = .ex z := h3; rw [h3]; exact ⟨Γ, rfl⟩
    | bad => trivial
  | ex z => have h1 : g Γ = .ex z := h1; rw [h1]; exact ⟨Γ, rfl⟩
  | bad => trivial
theorem ir_cP {as : List (Int × Int)} : IR m L (eP2 eI eI) (.ok as) (fiC (as.map (eP2 eI eI))) := fun _ _ => rfl
theorem bg_forTS {A : List ((Int × Int) × α)} {is : List Nat} {T : Re ω} (hl : lk i L = some (.fr (eDp ea A))) (h : BG m (frzL i L) P T (sSeq (sFor (fiC ((A.map fun p => p.1).map (eP2 eI eI))) (.tup is) u) w)) : BG m L P T (sSeq (sForT i is u) w) := fun Γ hΓ => by
  have h1 := h _ (hΓ.frz i)
  have h2 := hΓ.at' i _ hl
  have ek : ((A.map fun p => keyP p.1).map fun k => D.t (k.map keyD)) = (A.map fun p => p.1).map (eP2 eI eI) := by rw [List.map_map, List.map_map]; rfl
  have e1 : sForT i is u Γ = sFor (fiC ((A.map fun p => p.1).map (eP2 eI eI))) (.tup is) u (frz i Γ) := by
    unfold sForT frz
    rw [h2]
    show forL (.tup is) u ((A.map fun p => keyP p.1).map fun k => D.t (k.map keyD)) _ = _
    rw [ek]
    rfl
  have e2 : sSeq (sForT i is u) w Γ = sSeq (sFor (fiC ((A.map fun p => p.1).map (eP2 eI eI))) (.tup is) u) w (frz i Γ) := by
    show (match sForT i is u Γ with | .nx Γ' => w Γ' | o => o) = (match sFor (fiC ((A.map fun p => p.1).map (eP2 eI eI))) (.tup is) u (frz i Γ) with | .nx Γ' => w Γ' | o => o)
    rw [e1]
  rw [e2]; exact h1
end
end Ly
end

section
set_option maxRecDepth 100000
set_option maxHeartbeats 1000000
namespace Ly
open PySem PySem.Spec L2
open PyProof.Rows hiding St
variable [Tb]
abbrev Mx := List (List Int)
def rowD (r : List Int) : D := .l (r.map .i)
structure Cells (c : LC) (G H : Hp) (p : Addr) (qs : List Addr) (M : Mx) : Prop where
  top : H p = some (.lst (qs.map .ref))
  nd : (p :: qs).Nodup
  len : qs.length = M.length
  row : ∀ (j : Nat) (q : Addr) (r : List Int), qs[j]? = some q → M[j]? = some r → H q = some (.lst (r.map .int))
  nb : ∀ q ∈ p :: qs, Non c.B q ∧ G q = none
theorem Cells.at' {c : LC} {G H : Hp} {p q : Addr} {qs : List Addr} {M : Mx} (h : Cells c G H p qs M) (hq : q ∈ p :: qs) : ∃ xs, H q = some (.lst xs) := by
  rcases List.mem_cons.mp hq with rfl | hq
  · exact ⟨_, h.top⟩
  · obtain ⟨j, hj, e⟩ := List.getElem_of_mem hq
    have hl := h.len
    exact ⟨_, h.row j q M[j] (by rw [List.getElem?_eq_getElem hj, e]) (List.getElem?_eq_getElem (by omega))⟩
theorem Cells.live {c : LC} {G H : Hp} {p q : Addr} {qs : List Addr} {M : Mx} (h : Cells c G H p qs M) (hq : q ∈ p :: qs) : ¬ Non H q := by
  obtain ⟨xs, e⟩ := h.at' hq
  exact live_of e
structure MatOk (c : LC) (i : Nat) (p : Addr) (qs : List Addr) (G H : Hp) (σ : St) (Γ : Env') (M : Mx) : Prop where
  en : EnvOk c G H σ Γ
  slot : Γ[i]? = some (some (.sh (.o p)))
  cl : Cells c G H p qs M
  sp : ∀ (j : Nat) (d : D) (a : Addr), Γ[j]? = some (some (.fr d)) → σ[j]? = some (some (.ref a)) → a ∉ p :: qs
theorem MatOk.mono {c : LC} {i : Nat} {p : Addr} {qs : List Addr} {G H G' H' : Hp} {σ : St} {Γ : Env'} {M : Mx} (m : MatOk c i p qs G H σ Γ M) (g : Gr G H G' H') : MatOk c i p qs G' H' σ Γ M :=
  ⟨m.en.mono g, m.slot, ⟨g.hh _ _ m.cl.top (fun _ z => by cases z), m.cl.nd, m.cl.len, fun j q r h1 h2 => g.hh _ _ (m.cl.row j q r h1 h2) (fun _ z => by cases z), fun q hq => ⟨(m.cl.nb q hq).1, g.keepNone (m.cl.nb q hq).2 (m.cl.live hq)⟩⟩, m.sp⟩
theorem MatOk.val {c : LC} {i : Nat} {p : Addr} {qs : List Addr} {G H : Hp} {σ : St} {Γ : Env'} {M : Mx} (m : MatOk c i p qs G H σ Γ M) : σ[i]? = some (some (.ref p)) := by
  obtain ⟨v, h1, h2, _⟩ := m.en.at' i _ m.slot
  cases h2
  exact h1
def LC.wth (c : LC) (H : Hp) (ps : List Addr) : LC := ⟨c.K, c.mg, fun a => if a ∈ ps then H a else c.B a, c.G0, c.W⟩
theorem MatOk.fr {c : LC} {i : Nat} {p : Addr} {qs : List Addr} {G H : Hp} {σ : St} {Γ : Env'} {M : Mx} (m : MatOk c i p qs G H σ Γ M) : EnvOk (c.wth H (p :: qs)) G H σ Γ := by
  refine ⟨fun b o e n => ?_, m.en.g0, m.en.gh, fun a o e n => ?_, m.en.gt, m.en.tb, m.en.len, fun j r hj => ?_, m.en.sep⟩
  · have e : (if b ∈ p :: qs then H b else c.B b) = some o := e
    by_cases hb : b ∈ p :: qs
    · rwa [if_pos hb] at e
    · rw [if_neg hb] at e; exact m.en.bh b o e n
  · by_cases ha : a ∈ p :: qs
    · rw [(m.cl.nb a ha).2] at e; cases e
    · exact m.en.gf a o e fun z => n fun o' e' => by
        have e' : (if a ∈ p :: qs then H a else c.B a) = some o' := e'
        rw [if_neg ha] at e'
        exact z o' e'
  · obtain ⟨v, h1, h2, h3⟩ := m.en.at' j r hj
    refine ⟨v, h1, ?_, h3⟩
    cases r with
    | sh d => exact h2
    | fr d =>
      obtain ⟨a, rfl, n, g, o⟩ := h2
      have ha := m.sp j d a hj h1
      refine ⟨a, rfl, fun o' e' => ?_, g, o⟩
      have e' : (if a ∈ p :: qs then H a else c.B a) = some o' := e'
      rw [if_neg ha] at e'
      exact n o' e'
    | bo d => exact absurd rfl (h3 d)
theorem MatOk.back {c : LC} {i : Nat} {p : Addr} {qs : List Addr} {G H G' H' : Hp} {σ σ' : St} {Γ Γ' : Env'} {M : Mx} (m : MatOk c i p qs G H σ Γ M) (e : EnvOk (c.wth H (p :: qs)) G' H' σ' Γ') (sl : Γ'[i]? = some (some (.sh (.o p)))) : MatOk c i p qs G' H' σ' Γ' M := by
  have hB : ∀ a, a ∉ p :: qs → (c.wth H (p :: qs)).B a = c.B a := fun a ha => if_neg ha
  have hC : ∀ a, a ∈ p :: qs → (c.wth H (p :: qs)).B a = H a := fun a ha => if_pos ha
  have nC : ∀ a, a ∈ p :: qs → ¬ Non (c.wth H (p :: qs)).B a := fun a ha n => by
    obtain ⟨xs, ex⟩ := m.cl.at' ha
    exact live_of (H := (c.wth H (p :: qs)).B) (by rw [hC a ha]; exact ex) (fun _ z => by cases z) n
  have kp : ∀ a xs, a ∈ p :: qs → H a = some (.lst xs) → H' a = some (.lst xs) := fun a xs ha ex => e.bh a _ (by rw [hC a ha]; exact ex) (fun _ z => by cases z)
  refine ⟨⟨fun b o eb n => ?_, e.g0, e.gh, fun a o ea n => ?_, e.gt, e.tb, e.len, fun j r hj => ?_, e.sep⟩, sl, ⟨kp _ _ List.mem_cons_self m.cl.top, m.cl.nd, m.cl.len, fun j q r h1 h2 => kp _ _ (List.mem_cons_of_mem _ (List.mem_of_getElem? h1)) (m.cl.row j q r h1 h2), fun q hq => ⟨(m.cl.nb q hq).1, ?_⟩⟩, fun j d a hj sj ha => ?_⟩
  · by_cases hb : b ∈ p :: qs
    · obtain ⟨ps, z⟩ := (m.cl.nb b hb).1 o eb
      exact absurd z (n ps)
    · exact e.bh b o (by rw [hB b hb]; exact eb) n
  · refine e.gf a o ea fun z => n ?_
    by_cases ha : a ∈ p :: qs
    · exact (m.cl.nb a ha).1
    · exact fun o' e' => z o' (by rw [hB a ha]; exact e')
  · obtain ⟨v, h1, h2, h3⟩ := e.at' j r hj
    refine ⟨v, h1, ?_, h3⟩
    cases r with
    | sh d => exact h2
    | fr d =>
      obtain ⟨a, rfl, n, g, o⟩ := h2
      have ha : a ∉ p :: qs := fun z => nC a z n
      exact ⟨a, rfl, fun o' e' => n o' (by rw [hB a ha]; exact e'), g, o⟩
    | bo d => exact absurd rfl (h3 d)
  · cases eg : G' q with
    | none => rfl
    | some o =>
      have h0 := e.gf q o eg (nC q hq)
      have h1 := m.en.g0 q o h0
      rw [(m.cl.nb q hq).2] at h1
      cases h1
  · obtain ⟨v, h1, h2, _⟩ := e.at' j _ hj
    rw [sj] at h1
    cases h1
    obtain ⟨a', ea, n, _, _⟩ := h2
    cases ea
    exact nC a ha n
inductive Fm where
  | nx (Γ : Env') (M : Mx) | rt (M : Mx) | bad
abbrev FM := Env' → Mx → Fm
def PostM (c : LC) (i : Nat) (p : Addr) (qs : List Addr) (r : Fm) (G : Hp) (D : Ends) : Prop := match r with
  | .nx Γ' M' => ∀ σ' G' H', MatOk c i p qs G' H' σ' Γ' M' → Same G G' → D.nx σ' H'
  | .rt M' => ∀ v G' H', EndOk c G' H' → Same G G' → RV c G' H' v (.fr (.l (M'.map rowD))) → D.rt v H'
  | .bad => False
def tM (c : LC) (i : Nat) (f : FM) : TS := fun D σ H => ∃ p qs G Γ M, MatOk c i p qs G H σ Γ M ∧ PostM c i p qs (f Γ M) G D
theorem PostM.later {c : LC} {i : Nat} {p : Addr} {qs : List Addr} {r : Fm} {G G1 : Hp} {D : Ends} (g : Same G G1) (h : PostM c i p qs r G D) : PostM c i p qs r G1 D := by
  cases r with
  | nx Γ M => exact fun σ' G' H' e s => h σ' G' H' e (g.trans s)
  | rt M => exact fun v G' H' e s => h v G' H' e (g.trans s)
  | bad => exact h
section
variable {X : Cx} {c : LC} {i : Nat} {st : Stmt} {rest body : List Stmt} {u w : FM} {tg it : Expr} {pos : Pos}
def mNil : FM := fun Γ M => .nx Γ M
theorem mm_nil : PSs X [] (tM c i mNil) := PSs.weak pss_nil fun D σ H ⟨p, qs, G, Γ, M, m, q⟩ => q σ G H m (Same.refl _)
def mSeq (u w : FM) : FM := fun Γ M => match u Γ M with | .nx Γ' M' => w Γ' M' | o => o
theorem mm_cons (h1 : PS X st (tM c i u)) (h2 : PSs X rest (tM c i w)) : PSs X (st :: rest) (tM c i (mSeq u w)) := by
  refine PSs.weak (pss_cons h1 h2) ?_
  rintro D σ H ⟨p, qs, G, Γ, M, m, q⟩
  refine ⟨p, qs, G, Γ, M, m, ?_⟩
  unfold mSeq at q
  cases e : u Γ M with
  | nx Γ' M' => rw [e] at q; exact fun σ' G' H' m' s => ⟨p, qs, G', Γ', M', m', PostM.later s q⟩
  | rt M' => rw [e] at q; exact q
  | bad => rw [e] at q; exact q.elim
def mLift (i : Nat) (u : FS) : FM := fun Γ M => match u Γ with
  | .nx Γ' => (match Γ[i]?, Γ'[i]? with
    | some (some (.sh (.o p))), some (some (.sh (.o p'))) => if p = p' then .nx Γ' M else .bad
    | _, _ => .bad)
  | _ => .bad
theorem mm_lift (cy : Cy X c) {u : FS} (h : ∀ c', Cy X c' → PS X st (tS c' u)) : PS X st (tM c i (mLift i u)) := by
  refine ⟨fun pins s σ H D I q => ?_⟩
  obtain ⟨p, qs, G, Γ, M, m, q⟩ := q
  refine (h (c.wth H (p :: qs)) ⟨cy.K, cy.mg, cy.tk, cy.calm, cy.nd, cy.un⟩).run pins s σ H D I ⟨G, Γ, m.fr, ?_⟩
  unfold mLift at q
  cases e : u Γ with
  | nx Γ' =>
    rw [e, m.slot] at q
    intro σ' G' H' e' s'
    dsimp only at q
    split at q
    · rename_i p1 p2 ep1 ep2
      cases ep1
      split at q
      · rename_i ez
        subst ez
        exact q σ' G' H' (m.back e' ep2) s'
      · exact q.elim
    · exact q.elim
  | bk Γ' => rw [e] at q; exact q.elim
  | ct Γ' => rw [e] at q; exact q.elim
  | rt r => rw [e] at q; exact q.elim
  | ex x Γ' => rw [e] at q; exact q.elim
  | bad => rw [e] at q; exact q.elim
def forM (t : Tg) (u : FM) : List D → FM
  | [], Γ, M => .nx Γ M
  | d :: ds, Γ, M => match t.set d Γ with
    | some Γ1 => (match u Γ1 M with | .nx Γ' M' => forM t u ds Γ' M' | o => o)
    | none => .bad
def mFor (fi : FI) (t : Tg) (u : FM) : FM := fun Γ M => match fi Γ with
  | .ok ds => forM t u ds Γ M | _ => .bad
theorem setN_out {i : Nat} : ∀ {is : List Nat} {ds : List D} {Γ Γ' : Env'}, setN is ds Γ = some Γ' → i ∉ is → Γ'[i]? = Γ[i]?
  | [], [], _, _, h, _ => by cases h; rfl
  | [], _ :: _, _, _, h, _ => by cases h
  | _ :: _, [], _, _, h, _ => by cases h
  | j :: is, d :: ds, Γ, Γ', h, n => by
    rw [setN_out (is := is) (ds := ds) h fun z => n (List.mem_cons_of_mem _ z), List.getElem?_set_ne fun z => n (by rw [z]; exact List.mem_cons_self)]
theorem tset_out {i : Nat} {t : Tg} {d : D} {Γ Γ' : Env'} (h : t.set d Γ = some Γ') (n : i ∉ t.ix) : Γ'[i]? = Γ[i]? := by
  cases t with
  | one j => cases h; exact List.getElem?_set_ne fun z => n (by rw [z]; exact List.mem_cons_self)
  | tup is =>
    cases d with
    | t ds => exact setN_out h n
    | _ => cases h
theorem setN_fr {j : Nat} {x : D} : ∀ {is : List Nat} {ds : List D} {Γ Γ' : Env'}, setN is ds Γ = some Γ' → Γ'[j]? = some (some (.fr x)) → j ∉ is ∧ Γ[j]? = some (some (.fr x))
  | [], [], _, _, h, e => by cases h; exact ⟨fun z => (by cases z), e⟩
  | [], _ :: _, _, _, h, _ => by cases h
  | _ :: _, [], _, _, h, _ => by cases h
  | k :: is, d :: ds, Γ, Γ', h, e => by
    obtain ⟨h1, h2⟩ := setN_fr (is := is) (ds := ds) h e
    by_cases z : k = j
    · subst z
      by_cases hl : k < Γ.length
      · rw [List.getElem?_set_self hl] at h2; cases h2
      · rw [List.getElem?_eq_none (by simpa using hl)] at h2; cases h2
    · rw [List.getElem?_set_ne z] at h2
      exact ⟨fun w => (List.mem_cons.mp w).elim (fun w => z w.symm) h1, h2⟩
theorem tset_fr {j : Nat} {x : D} {t : Tg} {d : D} {Γ Γ' : Env'} (h : t.set d Γ = some Γ') (e : Γ'[j]? = some (some (.fr x))) : j ∉ t.ix ∧ Γ[j]? = some (some (.fr x)) := by
  cases t with
  | one k =>
    cases h
    by_cases z : k = j
    · subst z
      by_cases hl : k < Γ.length
      · rw [List.getElem?_set_self hl] at e; cases e
      · rw [List.getElem?_eq_none (by simpa using hl)] at e; cases e
    · rw [List.getElem?_set_ne z] at e
      exact ⟨fun w => z (List.mem_singleton.mp w).symm, e⟩
  | tup is =>
    cases d with
    | t ds => exact setN_fr h e
    | _ => cases h
theorem for_loopM {p : Addr} {qs : List Addr} {M : Mx} {J : It} {ds : List D} {t : Tg} {G1 H1 : Hp} {σ : St} {Γ : Env'} {D : Ends} (hi' : i ∉ t.ix) (m0 : MatOk c i p qs G1 H1 σ Γ M) (w : WalkOk c.K G1 J ds) (q : PostM c i p qs (forM t u ds Γ M) G1 D) :
    ∃ W : Nat → Nat → St → Hp → Prop, (∃ m, W 0 m σ H1) ∧ ∀ k m σ H, W k m σ H → (J.stop k H ∧ D.nx σ H) ∨ (J.go k H ∧ ∃ N : St → Hp → Prop, (∀ σ' H', N σ' H' → ∃ m', m' < m ∧ W (k + 1) m' σ' H') ∧
      ∀ x H', J.yld k H x H' → t.tgt c.K x σ H' fun σ2 H2 => tM c i u { D with nx := N, ct := N, bk := D.nx } σ2 H2) := by
  refine ⟨fun k m σ' H' => m = ds.length - k ∧ k ≤ ds.length ∧ ∃ Gi Γi Mi, MatOk c i p qs Gi H' σ' Γi Mi ∧ Same G1 Gi ∧ PostM c i p qs (forM t u (ds.drop k) Γi Mi) Gi D,
    ⟨ds.length, by simp, Nat.zero_le _, G1, Γ, M, m0, Same.refl _, q⟩, ?_⟩
  rintro k m σ' H' ⟨rfl, hk, Gi, Γi, Mi, mi, si, qi⟩
  by_cases hl : k < ds.length
  · obtain ⟨d, hd⟩ : ∃ d, ds[k]? = some d := ⟨ds[k], by simp [hl]⟩
    have hdrop : ds.drop k = d :: ds.drop (k + 1) := by
      rw [List.drop_eq_getElem_cons hl]
      congr 1
      simpa [hl] using hd
    rw [hdrop] at qi
    obtain ⟨go, yl⟩ := w.go Gi H' si mi.en.gh k d hd
    refine .inr ⟨go, fun σ'' H'' => ∃ Gj Γj Mj, MatOk c i p qs Gj H'' σ'' Γj Mj ∧ Same G1 Gj ∧ PostM c i p qs (forM t u (ds.drop (k + 1)) Γj Mj) Gj D,
      fun σ'' H'' ⟨Gj, Γj, Mj, mj, sj, qj⟩ => ⟨ds.length - (k + 1), by omega, rfl, hl, Gj, Γj, Mj, mj, sj, qj⟩, fun x H2 hy => ?_⟩
    obtain ⟨G2, g2, r2⟩ := yl x H2 hy
    have m2 := mi.mono g2
    unfold forM at qi
    cases et : t.set d Γi with
    | none => rw [et] at qi; exact qi.elim
    | some Γ1 =>
      rw [et] at qi
      refine Tg.ok m2.en r2 et fun σ2 he3 hs3 => ?_
      have s2 : Same G1 G2 := si.trans g2.gg
      have m3 : MatOk c i p qs G2 H2 σ2 Γ1 Mi := ⟨he3, by rw [tset_out et hi']; exact m2.slot, m2.cl, fun j x a hj sj => by
        obtain ⟨n1, n2⟩ := tset_fr et hj
        rw [hs3 j n1] at sj
        exact m2.sp j x a n2 sj⟩
      refine ⟨p, qs, G2, Γ1, Mi, m3, ?_⟩
      have qi : PostM c i p qs (match u Γ1 Mi with | .nx Γ' M' => forM t u (ds.drop (k + 1)) Γ' M' | o => o) G2 D := PostM.later g2.gg qi
      cases eu : u Γ1 Mi with
      | nx Γ' M' => rw [eu] at qi; exact fun σ3 G3 H3 he4 s3 => ⟨G3, Γ', M', he4, s2.trans s3, PostM.later s3 qi⟩
      | rt r => rw [eu] at qi; exact qi
      | bad => rw [eu] at qi; exact qi
  · have ei : k = ds.length := by omega
    subst ei
    refine .inl ⟨w.stop H' (si.trans mi.en.gh) _ (Nat.le_refl _), ?_⟩
    rw [List.drop_length] at qi
    exact qi σ' Gi H' mi (Same.refl _)
theorem mm_for (hp : PassesOwn (model X.prog X.w) X.A X.env X.xe) (cy : Cy X c) {fi : FI} {t : Tg} (hi' : i ∉ t.ix) (hi : PI X tg it (tI c fi)) (hg : PG X tg (t.tgt c.K)) (hb : PSs X body (tM c i u))
    (hs : ∀ y, foldedSetIterable it X.env y = pure y := by intro _; rfl) : PS X (.For tg it body [] pos) (tM c i (mFor fi t u)) := by
  refine PS.weak (ps_for hp cy.calm hi hg hb hs) ?_
  rintro D σ H ⟨p, qs, G, Γ, M, m, q⟩
  unfold mFor at q
  refine ⟨G, Γ, m.en, ?_⟩
  cases e : fi Γ with
  | ok ds =>
    rw [e] at q
    intro J G1 H1 g1 w
    exact for_loopM hi' (m.mono g1) w (PostM.later g1.gg q)
  | ex x => rw [e] at q; exact q.elim
  | bad => rw [e] at q; exact q.elim
theorem MatOk.put {p : Addr} {qs : List Addr} {G H : Hp} {σ : St} {Γ : Env'} {M : Mx} (m : MatOk c i p qs G H σ Γ M) {j : Nat} {q : Addr} {r r' : List Int} (hq : qs[j]? = some q) (hr : M[j]? = some r) : MatOk c i p qs G (upd H q (.lst (r'.map .int))) σ Γ (M.set j r') := by
  have hqm : q ∈ p :: qs := List.mem_cons_of_mem _ (List.mem_of_getElem? hq)
  have hrow := m.cl.row j q r hq hr
  obtain ⟨nB, gN⟩ := m.cl.nb q hqm
  have en := m.en
  have pq : p ≠ q := fun z => (List.nodup_cons.mp m.cl.nd).1 (z ▸ List.mem_of_getElem? hq)
  refine ⟨⟨Kept.upd en.bh nB, en.g0, fun b o e => ?_, en.gf, en.gt, tabs_put en.tb hrow ⟨fun _ z => (by cases z), fun _ z => (by cases z)⟩, en.len, fun k rv hk => ?_, en.sep⟩, m.slot, ⟨?_, m.cl.nd, by rw [List.length_set]; exact m.cl.len, fun k q' r2 h1 h2 => ?_, m.cl.nb⟩, m.sp⟩
  · have : b ≠ q := fun z => by rw [z, gN] at e; cases e
    rw [upd_ne this]; exact en.gh b o e
  · obtain ⟨v, h1, h2, h3⟩ := en.at' k rv hk
    refine ⟨v, h1, ?_, h3⟩
    cases rv with
    | sh d => exact h2
    | fr d =>
      obtain ⟨a, rfl, n, g, o⟩ := h2
      have ha : a ≠ q := fun z => m.sp k d a hk h1 (z ▸ hqm)
      refine ⟨a, rfl, n, g, ?_⟩
      cases o with
      | l w1 w2 => exact .l (by rw [upd_ne ha]; exact w1) w2
      | dk w1 w2 w3 => exact .dk (by rw [upd_ne ha]; exact w1) w2 w3
      | dt w1 w2 w3 => exact .dt (by rw [upd_ne ha]; exact w1) w2 w3
    | bo d => exact absurd rfl (h3 d)
  · rw [upd_ne pq]; exact m.cl.top
  · by_cases hk : k = j
    · subst hk
      rw [hq] at h1
      cases h1
      rw [upd_same]
      have hl : k < M.length := (List.getElem?_eq_some_iff.mp hr).1
      rw [List.getElem?_set_self hl] at h2
      cases h2
      rfl
    · have hne : q' ≠ q := fun z => by
        subst z
        have hn := (List.nodup_cons.mp m.cl.nd).2
        obtain ⟨l1, e1⟩ := List.getElem?_eq_some_iff.mp h1
        obtain ⟨l2, e2⟩ := List.getElem?_eq_some_iff.mp hq
        have hp := List.pairwise_iff_getElem.mp hn
        rcases Nat.lt_trichotomy k j with h | h | h
        · exact hp k j l1 l2 h (e1.trans e2.symm)
        · exact hk h
        · exact hp j k l2 l1 h (e2.trans e1.symm)
      rw [upd_ne hne]
      rw [List.getElem?_set_ne (Ne.symm hk)] at h2
      exact m.cl.row k q' r2 h1 h2
def rGetL : V → V → Hp → VK → Prop := fun o y H Q => ∃ (p : Addr) (xs : List V) (k : Nat) (v : V), o = .ref p ∧ y = .int (k : Int) ∧ H p = some (.lst xs) ∧ xs[k]? = some v ∧ Q v H
theorem get_list : PGet X rGetL := by
  intro pins s σ H o y ov iv Q I ro ri h
  obtain ⟨p, xs, k, v, rfl, rfl, hp, hv, q⟩ := h
  cases ro
  obtain ⟨t, rfl⟩ := ri
  obtain ⟨its, r, pl, hz⟩ := I.list (SqL.of hp)
  obtain ⟨w, ew, rw'⟩ := r.get hv
  have hl := r.length
  have hk : k < xs.length := (List.getElem?_eq_some_iff.mp hv).1
  have hs : sizeLine = 16777216 := sizeLine_eq
  exact wpAny_getItem_list pl.isList (by omega) (by omega) (by simpa using ew) ⟨v, H, I, rw', q⟩
def mAug (fa fb fe : FE) : FM := fun Γ M => match fa Γ, fb Γ, fe Γ with
  | .ok (.sh (.i a)), .ok (.sh (.i b)), .ok (.sh (.i z)) => if 0 ≤ a ∧ 0 ≤ b then (match M[a.toNat]? with
      | some r => (match r[b.toNat]? with | some x => .nx Γ (M.set a.toNat (r.set b.toNat (x + z))) | none => .bad)
      | none => .bad) else .bad
  | _, _, _ => .bad
theorem mm_aug {x : Str} {px p1 p2 : Pos} {ea eb ev : Expr} {fa fb fe : FE} (hN : X.N[i]? = some x) (hv : Vis X.env.scope x) (ha : PE X ea (tE c fa)) (hb : PE X eb (tE c fb)) (he : PE X ev (tE c fe)) (cy : Cy X c)
    (hs : PlainIx ea) (hd : (x == ("__debug__" : Str)) = false := by decide) (hcd : (x == ("__classdict__" : Str)) = false := by decide)
    (hst : ∀ ov iv new, augStore eb ov iv new = (do holding [new, ov, iv] (setItem ov iv new); release [new, ov, iv] []; pure .next) := by intros; rfl) :
    PS X (.AugAssign (.Subscript (.Subscript (.Name x px) ea p1) eb p2) .Add ev pos) (tM c i (mAug fa fb fe)) := by
  refine PS.weak (ps_augS (pe_ix ix_list (pe_var hN hv hd hcd) ha hs) hb get_list he ip_add set_list hst) ?_
  rintro D σ H ⟨p, qs, G, Γ, M, m, q⟩
  unfold mAug at q
  split at q
  · rename_i a b z e1 e2 e3
    split at q
    · rename_i h0
      obtain ⟨ha0, hb0⟩ := h0
      split at q
      · rename_i r hr
        split at q
        · rename_i x hx
          obtain ⟨ja, rfl⟩ := Int.eq_ofNat_of_zero_le ha0
          obtain ⟨jb, rfl⟩ := Int.eq_ofNat_of_zero_le hb0
          simp only [Int.toNat_natCast] at hr hx q
          have hlq : ja < qs.length := by rw [m.cl.len]; exact (List.getElem?_eq_some_iff.mp hr).1
          have hq : qs[ja]? = some qs[ja] := List.getElem?_eq_getElem hlq
          generalize qs[ja] = cq at hq
          refine ⟨_, m.val, G, Γ, m.en, ?_⟩
          rw [e1]
          intro v1 G1 H1 g1 r1 _
          have m1 := m.mono g1
          cases r1
          refine ⟨p, _, _, .ref cq, rfl, rfl, by rw [cy.K]; exact SqL.of m1.cl.top, atI_nat (by rw [List.getElem?_map, hq]; rfl), G1, Γ, m1.en, ?_⟩
          rw [e2]
          intro v2 G2 H2 g2 r2 _
          have m2 := m1.mono g2
          cases r2
          refine ⟨cq, _, jb, .int x, rfl, rfl, m2.cl.row ja cq r hq hr, by rw [List.getElem?_map, hx]; rfl, G2, Γ, m2.en, ?_⟩
          rw [e3]
          intro v3 G3 H3 g3 r3 _
          have m3 := m2.mono g3
          cases r3
          have hjb : jb < r.length := (List.getElem?_eq_some_iff.mp hx).1
          refine ⟨x, z, rfl, rfl, cq, _, (jb : Int), jb, rfl, rfl, m3.cl.row ja cq r hq hr, by rw [List.length_map]; unfold ixN; rw [if_pos (by omega), if_pos (by omega)]; simp, ?_⟩
          have m4 := m3.put (r' := r.set jb (x + z)) hq hr
          rw [List.map_set] at m4
          exact q σ G3 _ m4 ((g1.gg.trans g2.gg).trans g3.gg)
        · exact q.elim
      · exact q.elim
    · exact q.elim
  · exact q.elim
theorem reps_ints {K : PySem.W.Frag} {G : Hp} : ∀ r : List Int, Reps K G (r.map .int) (r.map .i)
  | [] => .nil
  | z :: r => .cons (.i z) (reps_ints r)
theorem reps_rows {K : PySem.W.Frag} {G : Hp} : ∀ (qs : List Addr) (M : Mx), qs.length = M.length → (∀ (j : Nat) (q : Addr) (r : List Int), qs[j]? = some q → M[j]? = some r → G q = some (.lst (r.map .int))) → Reps K G (qs.map .ref) (M.map rowD)
  | [], [], _, _ => .nil
  | [], _ :: _, h, _ => by cases h
  | _ :: _, [], h, _ => by cases h
  | q :: qs, r :: M, h, k => .cons (.l (k 0 q r rfl rfl) (reps_ints r)) (reps_rows qs M (by simpa using h) fun j q r h1 h2 => k (j + 1) q r h1 h2)
def mRet : FM := fun _ M => .rt M
theorem mm_ret {x : Str} {px : Pos} (hN : X.N[i]? = some x) (hv : Vis X.env.scope x) (hd : (x == ("__debug__" : Str)) = false := by decide) (hcd : (x == ("__classdict__" : Str)) = false := by decide) : PS X (.Return (some (.Name x px)) pos) (tM c i mRet) := by
  refine PS.weak (ps_ret (pe_var hN hv hd hcd)) ?_
  rintro D σ H ⟨p, qs, G, Γ, M, m, q⟩
  refine ⟨_, m.val, ?_⟩
  have nd := List.nodup_cons.mp m.cl.nd
  have nb : ∀ a, a ∈ qs → Non c.B a ∧ G a = none := fun a ha => m.cl.nb a (List.mem_cons_of_mem _ ha)
  have sm : Same G (fun a => if a ∈ qs then H a else G a) := fun a o e => by
    have : a ∉ qs := fun z => by rw [(nb a z).2] at e; cases e
    show (if a ∈ qs then H a else G a) = some o
    rw [if_neg this]; exact e
  refine q (.ref p) (fun a => if a ∈ qs then H a else G a) H ⟨m.en.bh, m.en.g0.trans sm, fun a o e => ?_, fun a o e n => ?_, fun a ps e => ?_, m.en.tb⟩ sm ⟨p, rfl, (m.cl.nb p List.mem_cons_self).1, ?_, .l m.cl.top (reps_rows qs M m.cl.len fun j q r h1 h2 => ?_)⟩
  · have e : (if a ∈ qs then H a else G a) = some o := e
    split at e
    · exact e
    · exact m.en.gh a o e
  · have e : (if a ∈ qs then H a else G a) = some o := e
    split at e
    · rename_i ha; exact absurd (nb a ha).1 n
    · exact m.en.gf a o e n
  · have e : (if a ∈ qs then H a else G a) = some (.tbl ps) := e
    split at e
    · rename_i ha
      obtain ⟨xs, ex⟩ := m.cl.at' (List.mem_cons_of_mem _ ha)
      rw [ex] at e; cases e
    · exact m.en.gt a ps e
  · show (if p ∈ qs then H p else G p) = none
    rw [if_neg nd.1]; exact (m.cl.nb p List.mem_cons_self).2
  · show (if q ∈ qs then H q else G q) = _
    rw [if_pos (List.mem_of_getElem? h1)]
    exact m.cl.row j q r h1 h2
def rowOf1 (t : Tg) (ft : FT) (fe : FE) (Γ0 : Env') (d : D) : Option (List Int) := match t.set d Γ0 with
  | some Γ1 => (match ft Γ1, fe Γ1 with | .ok true, .ok (.fr (.l ds)) => D.ints ds | _, _ => none)
  | none => none
def rowsOf (t : Tg) (ft : FT) (fe : FE) (Γ0 : Env') : List D → Option Mx
  | [] => some []
  | d :: ds => match rowOf1 t ft fe Γ0 d, rowsOf t ft fe Γ0 ds with | some r, some R => some (r :: R) | _, _ => none
theorem rowOf1_ok {t : Tg} {ft : FT} {fe : FE} {Γ0 : Env'} {d : D} {r : List Int} (h : rowOf1 t ft fe Γ0 d = some r) : ∃ Γ1, t.set d Γ0 = some Γ1 ∧ ft Γ1 = .ok true ∧ fe Γ1 = .ok (.fr (.l (r.map .i))) := by
  unfold rowOf1 at h
  split at h
  · rename_i Γ1 e
    split at h
    · rename_i ds e1 e2
      rw [D.ints_eq h] at e2
      exact ⟨Γ1, e, e1, e2⟩
    · cases h
  · cases h
structure NewC (K : PySem.W.Frag) (G H0 H : Hp) (Dd : Addr) (qs : List Addr) (M : Mx) : Prop where
  top : H Dd = some (.lst (qs.map .ref))
  nd : (Dd :: qs).Nodup
  len : qs.length = M.length
  row : ∀ (j : Nat) (q : Addr) (r : List Int), qs[j]? = some q → M[j]? = some r → H q = some (.lst (r.map .int))
  nb : ∀ q ∈ Dd :: qs, Non H0 q ∧ G q = none
theorem NewC.live {K : PySem.W.Frag} {G H0 H : Hp} {Dd q : Addr} {qs : List Addr} {M : Mx} (h : NewC K G H0 H Dd qs M) (hq : q ∈ Dd :: qs) : ¬ Non H q := by
  rcases List.mem_cons.mp hq with rfl | hq
  · exact live_of h.top
  · obtain ⟨j, hj, e⟩ := List.getElem_of_mem hq
    have hl := h.len
    exact live_of (h.row j q M[j] (by rw [List.getElem?_eq_getElem hj, e]) (List.getElem?_eq_getElem (by omega)))
theorem NewC.mono {K : PySem.W.Frag} {G H0 H G' H' : Hp} {Dd : Addr} {qs : List Addr} {M : Mx} (h : NewC K G H0 H Dd qs M) (g : Gr G H G' H') : NewC K G' H0 H' Dd qs M :=
  ⟨g.hh _ _ h.top (fun _ z => by cases z), h.nd, h.len, fun j q r h1 h2 => g.hh _ _ (h.row j q r h1 h2) (fun _ z => by cases z), fun q hq => ⟨(h.nb q hq).1, g.keepNone (h.nb q hq).2 (h.live hq)⟩⟩
theorem ints_ofV {K : PySem.W.Frag} {G : Hp} : ∀ {r : List Int} {xs : List V}, Reps K G xs (r.map .i) → xs = r.map .int
  | [], _, .nil => rfl
  | z :: r, _, .cons h t => by
    cases h
    rw [ints_ofV t]; rfl
theorem lc_mainM {t : Tg} {ft : FT} {fe : FE} {own : List Nat} {σ : St} {H : Hp} {Q : VK} {G : Hp} {Γ : Env'} {ds : List D} {R : Mx} (hix : ∀ j ∈ t.ix, j ∈ own) (he : EnvOk c G H σ Γ) (hl : rowsOf t ft fe (wipeG Γ own) ds = some R) (hz : R.length ≤ 16777216)
    (q : ∀ p qs G' H', Gr G H G' H' → NewC c.K G' H H' p qs R → Q (.ref p) H') {J : It} {G1 H1 : Hp} (g1 : Gr G H G1 H1) (w : WalkOk c.K G1 J ds) :
    ∀ D, H1 D = none → ∃ W : Nat → Nat → Hp → Prop, (∃ m, W 0 m (upd H1 D (.lst []))) ∧ ∀ i m H, W i m H →
      (J.stop i H ∧ Q (.ref D) H) ∨ (J.go i H ∧ ∃ Nx : Hp → Prop, (∀ H', Nx H' → ∃ m', m' < m ∧ W (i + 1) m' H') ∧ ∀ x H', J.yld i H x H' → t.tgt c.K x (wipe σ own) H' fun σ2 H2 => wipe σ2 own = wipe σ own ∧ tT c.calm ft σ2 H2 fun b H3 =>
        if b = true then tE c.calm fe σ2 H3 fun y H4 => ∃ acc, H4 D = some (.lst acc) ∧ acc.length < sizeLine ∧ Nx (upd H4 D (.lst (acc ++ [y]))) else Nx H3) := by
  intro D hD
  have hD0 : Non H D := Kept.non g1.hh (.of hD)
  have g1D : G1 D = none := g1.gh.free hD
  let Inv : Nat → Hp → Prop := fun i H' => ∃ Gi qs M rs, Gr G1 H1 Gi H' ∧ NewC c.K Gi H H' D qs M ∧ rowsOf t ft fe (wipeG Γ own) (ds.drop i) = some rs ∧ M ++ rs = R
  refine ⟨fun i m H' => m = ds.length - i ∧ i ≤ ds.length ∧ Inv i H', ⟨ds.length, by simp, Nat.zero_le _, G1, [], [], R, .own g1.gh hD, ⟨upd_same, by simp, rfl, fun j q r h1 _ => by simp at h1, fun q hq => by cases List.mem_singleton.mp hq; exact ⟨hD0, g1D⟩⟩, hl, rfl⟩, ?_⟩
  rintro i m H' ⟨rfl, hi, Gi, qs, M, rs, gi, nc, hr, hy⟩
  by_cases hlt : i < ds.length
  · obtain ⟨d, hd⟩ : ∃ d, ds[i]? = some d := ⟨ds[i], by simp [hlt]⟩
    have hdrop : ds.drop i = d :: ds.drop (i + 1) := by
      rw [List.drop_eq_getElem_cons hlt]
      congr 1
      simpa [hlt] using hd
    rw [hdrop] at hr
    obtain ⟨go, yl⟩ := w.go Gi H' gi.gg gi.gh i d hd
    refine .inr ⟨go, Inv (i + 1), fun H'' hn => ⟨ds.length - (i + 1), by omega, rfl, hlt, hn⟩, fun x H2 hyl => ?_⟩
    obtain ⟨G2, g2, r2⟩ := yl x H2 hyl
    unfold rowsOf at hr
    cases es : rowOf1 t ft fe (wipeG Γ own) d with
    | none => simp [es] at hr
    | some r =>
      cases er : rowsOf t ft fe (wipeG Γ own) (ds.drop (i + 1)) with
      | none => simp [es, er] at hr
      | some rs' =>
        simp only [es, er, Option.some.injEq] at hr
        obtain ⟨Γ1, et, hf, hfe⟩ := rowOf1_ok es
        have heW : EnvOk c G1 H1 (wipe σ own) (wipeG Γ own) := (he.mono g1).wipe own
        have he2 := (heW.mono gi).mono g2
        have nc2 := nc.mono g2
        refine Tg.ok he2 r2 et fun σ2 he3 hj => ⟨?_, G2, Γ1, he3.calm, ?_⟩
        · have l2 : σ2.length = (wipe σ own).length := by rw [he3.len, Tg.set_length et, he2.len]
          have e1 : wipe σ2 own = wipe (wipe σ own) own := wipe_in l2 own fun j hn => hj j fun z => hn (hix j z)
          have e2 : wipe (wipe σ own) own = wipe σ own := wipe_in (by rw [wipe_length]) own fun j hn => wipe_out hn
          rw [e1, e2]
        · rw [hf]
          intro G3 H3 g3
          rw [if_pos rfl]
          have nc3 := nc2.mono g3
          refine ⟨G3, Γ1, he3.calm.mono g3, ?_⟩
          rw [hfe]
          intro v G4 H4 g4 v4 fr4
          obtain ⟨a, rfl, nB, gN, o⟩ := v4
          obtain ⟨a', ea, nH⟩ := fr4
          cases ea
          have nc4 := nc3.mono g4
          have g0 := gi.trans (g2.trans (g3.trans g4))
          have na : a ∉ D :: qs := fun z => nc3.live z nH
          have hrow : H4 a = some (.lst (r.map .int)) := by
            cases o with
            | l w1 w2 => rw [ints_ofV w2] at w1; exact w1
          have nH0 : Non H a := Kept.non g1.hh (Kept.non gi.hh (Kept.non g2.hh (Kept.non g3.hh nH)))
          have hDa : D ≠ a := fun z => na (z ▸ List.mem_cons_self)
          refine ⟨_, nc4.top, ?_, G4, qs ++ [a], M ++ [r], rs', g0.put (.of hD) (nc4.nb D List.mem_cons_self).2 nc4.top ⟨fun _ z => (by cases z), fun _ z => (by cases z)⟩, ⟨by rw [upd_same, List.map_append]; rfl, ?_, by simp [nc4.len], fun j q r2 h1 h2 => ?_, fun q hq => ?_⟩, er, ?_⟩
          · rw [List.length_map, nc.len, sizeLine_eq]
            have := congrArg List.length hy
            rw [← hr] at this
            simp at this
            omega
          · rw [← List.cons_append, List.nodup_append]
            exact ⟨nc4.nd, by simp, fun x hx y hy e => by
              have : y = a := by simpa using hy
              subst this
              exact na (e ▸ hx)⟩
          · by_cases hjl : j < qs.length
            · rw [List.getElem?_append_left hjl] at h1
              rw [List.getElem?_append_left (by rw [← nc4.len]; exact hjl)] at h2
              have hne : q ≠ D := fun z => (List.nodup_cons.mp nc4.nd).1 (z ▸ List.mem_of_getElem? h1)
              rw [upd_ne hne]
              exact nc4.row j q r2 h1 h2
            · rw [List.getElem?_append_right (by omega)] at h1
              rw [List.getElem?_append_right (by rw [← nc4.len]; omega)] at h2
              have hj0 : j - qs.length = 0 := by
                have := (List.getElem?_eq_some_iff.mp h1).1
                simpa using this
              rw [hj0] at h1
              rw [← nc4.len, hj0] at h2
              cases h1
              cases h2
              rw [upd_ne (Ne.symm hDa)]
              exact hrow
          · rw [← List.cons_append] at hq
            rcases List.mem_append.mp hq with hq | hq
            · exact nc4.nb q hq
            · cases List.mem_singleton.mp hq
              exact ⟨nH0, gN⟩
          · rw [← hy, ← hr]; simp
  · have ei : i = ds.length := by omega
    subst ei
    rw [List.drop_length] at hr
    cases hr
    rw [List.append_nil] at hy
    subst hy
    exact .inl ⟨w.stop H' (gi.gg.trans gi.gh) _ (Nat.le_refl _), q D qs Gi H' (g1.trans gi) nc⟩
def outM : Fm → Option Mx
  | .rt M => some M | _ => none
open Classical in
noncomputable def sMat (i : Nat) (fi : FI) (t : Tg) (ft : FT) (fe : FE) (own : List Nat) (w : FM) : FS := fun Γ => match fi Γ with
  | .ok ds => (match rowsOf t ft fe (wipeG Γ own) ds with
    | some M => if h : i < Γ.length ∧ M.length ≤ 16777216 ∧ ∃ R : Mx, ∀ p : Addr, outM (w (Γ.set i (some (.sh (.o p)))) M) = some R then .rt (.fr (.l ((Classical.choose h.2.2).map rowD))) else .bad
    | none => .bad)
  | _ => .bad
theorem rs_mat (cy : Cy X c) {y : Str} {py : Pos} {elt iter : Expr} {ifs : List Expr} {scope : Scope} {own : List (Str × Nat)} {spos : Pos} {t : Tg} {fi : FI} {ft : FT} {fe : FE} (hy : X.N[i]? = some y) (hyl : X.env.scope.names.lookup y = some .local)
    (hsw : swapsWith (.ListComp elt [⟨tg, iter, ifs, 0⟩] scope pos) (some (.Name y py)) spos.line X.env = pure true) (hi : PI X tg iter (tI c fi)) (ok : BlkOk X.N X.env.scope scope own) (hix : ∀ j ∈ t.ix, j ∈ own.map (·.2))
    (hg : ∀ (s : Shared) (H : Hp) (C : Addr) (cl : List (Str × Addr)) (fp : List Addr), Cy (X.blk s H scope (compEnvC scope cl C X.env) fp) c.calm → PG (X.blk s H scope (compEnvC scope cl C X.env) fp) tg (t.tgt c.K))
    (ht : ∀ (s : Shared) (H : Hp) (C : Addr) (cl : List (Str × Addr)) (fp : List Addr), Cy (X.blk s H scope (compEnvC scope cl C X.env) fp) c.calm → PTs (X.blk s H scope (compEnvC scope cl C X.env) fp) ifs (tT c.calm ft))
    (hel : ∀ (s : Shared) (H : Hp) (C : Addr) (cl : List (Str × Addr)) (fp : List Addr), Cy (X.blk s H scope (compEnvC scope cl C X.env) fp) c.calm → PE (X.blk s H scope (compEnvC scope cl C X.env) fp) elt (tE c.calm fe))
    (hw : PSs X rest (tM c i w)) (hs : ∀ x, foldedSetIterable iter X.env x = pure x := by intro _; rfl) :
    PSs X (.Assign [.Name y py] (.ListComp elt [⟨tg, iter, ifs, 0⟩] scope pos) spos :: rest) (tS c (sMat i fi t ft fe (own.map (·.2)) w)) := by
  refine PSs.weak (pss_cons (ps_setLc cy.calm cy.nd hy hyl hsw hi ok (fun s H C cl fp => hg s H C cl fp (cy.blk ..)) (fun s H C cl fp => ht s H C cl fp (cy.blk ..)) (fun s H C cl fp => hel s H C cl fp (cy.blk ..)) hs) hw) ?_
  rintro D σ H ⟨G, Γ, he, q⟩
  unfold sMat at q
  refine ⟨G, Γ, he, ?_⟩
  cases ef : fi Γ with
  | bad => rw [ef] at q; exact q.elim
  | ex x => rw [ef] at q; exact q.elim
  | ok ds =>
    rw [ef] at q
    intro J G1 H1 g1 w1
    dsimp only at q
    cases er : rowsOf t ft fe (wipeG Γ (own.map (·.2))) ds with
    | none => rw [er] at q; exact q.elim
    | some M =>
      rw [er] at q
      dsimp only at q
      split at q
      · rename_i h
        obtain ⟨hil, hz, hR⟩ := h
        refine lc_mainM (Q := fun x H1 => gName i x σ H1 (fun σ' H' => tM c i w D σ' H')) hix he er hz (fun p qs G' H' g nc => ?_) g1 w1
        have out := Classical.choose_spec hR p
        generalize Classical.choose hR = R at q out
        have heS := (he.mono g).setSh i (Rep.o (K := c.K) (G := G') p)
        refine ⟨p, qs, G', _, M, ⟨heS, List.getElem?_set_self hil, ⟨nc.top, nc.nd, nc.len, nc.row, fun x hx => ⟨Kept.non he.bh (nc.nb x hx).1, (nc.nb x hx).2⟩⟩, fun j d a hj sj ha => ?_⟩, ?_⟩
        · rcases set_get hj with ⟨_, z, _⟩ | ⟨nj, hj⟩
          · cases z
          · rw [List.getElem?_set_ne (Ne.symm nj)] at sj
            obtain ⟨v, h1, h2, _⟩ := he.at' j _ hj
            rw [sj] at h1
            cases h1
            obtain ⟨a', ea, _, _, o⟩ := h2
            cases ea
            exact o.live (nc.nb a ha).1
        · cases ew : w (Γ.set i (some (.sh (.o p)))) M with
          | nx Γ' M' => rw [ew] at out; cases out
          | bad => rw [ew] at out; cases out
          | rt M' =>
            rw [ew] at out
            cases out
            exact fun v G'' H'' e s r => q v G'' H'' e (g.gg.trans s) r (fun _ z => by cases z)
      · exact q.elim
end
end Ly
end

section
set_option maxRecDepth 100000
set_option maxHeartbeats 1000000
namespace Ly
open PySem PySem.Spec L2
open PyProof.Rows hiding St
section
variable [Tb]
theorem rs_frzP {X : Cx} {c : LC} {st : Stmt} {u : FS} (i : Nat) (h : PS X st (tS c u)) : PS X st (tS c (sFrz i u)) := by
  refine PS.weak h ?_
  rintro D σ H ⟨G, Γ, he, q⟩
  obtain ⟨G', s, he'⟩ := he.frz i
  exact ⟨G', _, he', PostS.later s q⟩
end
section
variable {m : Nat} {L : Lk} {k k1 k2 k3 : Kd} {α β τ ω S : Type} {e : τ → D} {ea : α → D} {f g h : FE} {fi : FI} {u : FS} {v w : FM} {M : Mx} {P : ω → Fm → Prop} {i : Nat}
def RM {ω : Type} (P : ω → Fm → Prop) (T : Re ω) (r : Fm) : Prop := match T with | .ok a => P a r | _ => True
def BM {ω : Type} (m : Nat) (L : Lk) (M : Mx) (P : ω → Fm → Prop) (T : Re ω) (u : FM) : Prop := ∀ Γ, Ag m L Γ → RM P T (u Γ M)
def PNm (m : Nat) (Lo : S → Lk) (Mo : S → Mx) : S → Fm → Prop := fun s r => ∃ Γ', r = .nx Γ' (Mo s) ∧ Ag m (Lo s) Γ'
def PTm : Mx → Fm → Prop := fun M r => r = .rt M
theorem bm_nil {s : S} {Lo : S → Lk} {Mo : S → Mx} (hs : subL (Lo s) L) (hm : Mo s = M) : BM m L M (PNm m Lo Mo) (.ok s) mNil := fun Γ hΓ => ⟨Γ, by rw [hm]; rfl, hΓ.sub hs⟩
theorem bm_ret : BM m L M PTm (.ok M) mRet := fun _ _ => rfl
theorem bm_last {T : Re ω} (h : BM m L M P T (mSeq v mNil)) : BM m L M P T v := fun Γ hΓ => by
  have h1 := h Γ hΓ
  unfold mSeq at h1
  cases e : v Γ M with
  | nx Γ' M' => rw [e] at h1; exact h1
  | rt M' => rw [e] at h1; exact h1
  | bad => rw [e] at h1; exact h1
@[irreducible] def augT (M : Mx) (a b z : Int) : Re Mx := if 0 ≤ a ∧ 0 ≤ b then (match M[a.toNat]? with
  | some r => (match r[b.toNat]? with | some x => .ok (M.set a.toNat (r.set b.toNat (x + z))) | none => .bad)
  | none => .bad) else .bad
theorem bm_aug {x y z : Re Int} {K : Mx → Re ω} (hx : ER m L .sh eI x f) (hy : ER m L .sh eI y g) (hz : ER m L .sh eI z h) (hw : ∀ M', BM m L M' P (K M') w) : BM m L M P (x.bind fun a => y.bind fun b => z.bind fun c => (augT M a b c).bind K) (mSeq (mAug f g h) w) := fun Γ hΓ => by
  have h1 := hx Γ hΓ
  have h2 := hy Γ hΓ
  have h3 := hz Γ hΓ
  cases x with
  | ex _ => trivial
  | bad => trivial
  | ok a =>
    cases y with
    | ex _ => trivial
    | bad => trivial
    | ok b =>
      cases z with
      | ex _ => trivial
      | bad => trivial
      | ok c =>
        have h1 : f Γ = .ok (.sh (.i a)) := h1
        have h2 : g Γ = .ok (.sh (.i b)) := h2
        have h3 : h Γ = .ok (.sh (.i c)) := h3
        show RM P ((augT M a b c).bind K) _
        unfold augT
        unfold mSeq mAug
        rw [h1, h2, h3]
        dsimp only
        by_cases h0 : 0 ≤ a ∧ 0 ≤ b
        · rw [if_pos h0, if_pos h0]
          cases M[a.toNat]? with
          | none => trivial
          | some r =>
            dsimp only
            cases r[b.toNat]? with
            | none => trivial
            | some x => exact hw _ Γ hΓ
        · rw [if_neg h0]; trivial
theorem bm_lift {p : Addr} {Lo : S → Lk} {T : Re S} {K : S → Re ω} (hl : lk i L = some (.sh (.o p))) (hu : BG m L (PN m Lo) T u) (ho : ∀ s, lk i (Lo s) = some (.sh (.o p))) (hw : ∀ s, BM m (Lo s) M P (K s) w) : BM m L M P (T.bind K) (mSeq (mLift i u) w) := fun Γ hΓ => by
  have h1 := hu Γ hΓ
  cases T with
  | ex _ => trivial
  | bad => trivial
  | ok s =>
    obtain ⟨Γ', e, h2⟩ := h1
    have a1 := hΓ.at' i _ hl
    have a2 := h2.at' i _ (ho s)
    show RM P (K s) _
    unfold mSeq mLift
    rw [e]
    dsimp only
    rw [a1, a2]
    dsimp only
    rw [if_pos rfl]
    exact hw s Γ' h2
theorem forM_t {t : Tg} {en : α → Lk} {Lh : S → Lk} {Mh : S → Mx} {B : S → α → Re S} (ht : TgR m ea t en) (hb : ∀ s a, BM m (en a ++ Lh s) (Mh s) (PNm m Lh Mh) (B s a) v) : ∀ (as : List α) (s : S) (Γ : Env'), Ag m (Lh s) Γ → RM (PNm m Lh Mh) (forT B as s) (forM t v (as.map ea) Γ (Mh s))
  | [], s, Γ, hΓ => ⟨Γ, rfl, hΓ⟩
  | a :: as, s, Γ, hΓ => by
    obtain ⟨Γ1, h1, h2⟩ := ht _ a Γ hΓ
    have h3 := hb s a Γ1 h2
    rw [List.map_cons, forT_cons]
    unfold forM
    rw [h1]
    dsimp only
    cases eB : B s a with
    | ok s' =>
      rw [eB] at h3
      obtain ⟨Γ', h4, h5⟩ := h3
      rw [h4]
      exact forM_t ht hb as s' Γ' h5
    | ex z => trivial
    | bad => trivial
theorem bm_for {t : Tg} {en : α → Lk} {Lh : S → Lk} {Mh : S → Mx} {B : S → α → Re S} {x : Re (List α)} {s0 : S} {K : S → Re ω} (hi : IR m L ea x fi) (ht : TgR m ea t en) (hs : subL (Lh s0) L) (hm : Mh s0 = M) (hb : ∀ s a, BM m (en a ++ Lh s) (Mh s) (PNm m Lh Mh) (B s a) v) (hw : ∀ s, BM m (Lh s) (Mh s) P (K s) w) :
    BM m L M P (x.bind fun as => (forT B as s0).bind K) (mSeq (mFor fi t v) w) := fun Γ hΓ => by
  have h1 := hi Γ hΓ
  subst hm
  cases x with
  | ex _ => trivial
  | bad => trivial
  | ok as =>
    have h1 : fi Γ = .ok _ := h1
    have h2 := forM_t ht hb as s0 Γ (hΓ.sub hs)
    show RM P ((forT B as s0).bind K) _
    unfold mSeq mFor
    rw [h1]
    dsimp only
    cases eF : forT B as s0 with
    | ok s =>
      rw [eF] at h2
      obtain ⟨Γ', h3, h4⟩ := h2
      rw [h3]
      exact hw s Γ' h4
    | ex z => trivial
    | bad => trivial
theorem rows_t {t : Tg} {own : List Nat} {en : α → Lk} {y : α → Re (List Int)} {fe : FE} (ht : TgC m ea t own en) (hx : ∀ a, ER m (en a ++ L) .fr (eL eI) (y a) fe) {Γ : Env'} (hΓ : Ag m L Γ) : ∀ {as : List α} {R : Mx}, mapT y as = .ok R → rowsOf t tYesF fe (wipeG Γ own) (as.map ea) = some R
  | [], _, h => by cases h; rfl
  | a :: as, R, h => by
    unfold mapT at h
    cases e1 : y a with
    | ex z => rw [e1] at h; cases h
    | bad => rw [e1] at h; cases h
    | ok r =>
      rw [e1] at h
      dsimp only at h
      cases e2 : mapT y as with
      | ex z => rw [e2] at h; cases h
      | bad => rw [e2] at h; cases h
      | ok bs =>
        rw [e2] at h
        cases h
        obtain ⟨Γ1, h1, h2⟩ := ht L a Γ hΓ
        have h3 := hx a Γ1 h2
        rw [e1] at h3
        have h3 : fe Γ1 = .ok (.fr (.l (r.map .i))) := h3
        have er : rowOf1 t tYesF fe (wipeG Γ own) (ea a) = some r := by
          unfold rowOf1
          rw [h1]
          dsimp only
          rw [h3]
          show D.ints (r.map .i) = some r
          exact D.ints_map r
        rw [List.map_cons]
        unfold rowsOf
        rw [er, rows_t ht hx hΓ e2]
theorem bg_mat {t : Tg} {own : List Nat} {en : α → Lk} {y : α → Re (List Int)} {x : Re (List α)} {fe : FE} {K : Mx → Re Mx} (hi : IR m L ea x fi) (ht : TgC m ea t own en) (hx : ∀ a, ER m (en a ++ L) .fr (eL eI) (y a) fe) (him : i < m) (hw : ∀ (p : Addr) (M : Mx), BM m ((i, .sh (.o p)) :: L) M PTm (K M) w) :
    BG m L (PT .fr (eL (eL eI))) (nxT (x.bind fun as => (mapT y as).bind fun M => (lcP M).bind K)) (sMat i fi t tYesF fe own w) := fun Γ hΓ => by
  have h1 := hi Γ hΓ
  cases x with
  | ex _ => trivial
  | bad => trivial
  | ok as =>
    have h1 : fi Γ = .ok _ := h1
    show RS _ (nxT ((mapT y as).bind fun M => (lcP M).bind K)) _
    cases e2 : mapT y as with
    | ex _ => trivial
    | bad => trivial
    | ok M =>
      have h2 := rows_t ht hx hΓ e2
      show RS _ (nxT ((lcP M).bind K)) _
      by_cases hz : M.length ≤ 16777216
      · rw [lcP_ok hz]
        show RS _ (nxT (K M)) _
        cases e3 : K M with
        | ex _ => trivial
        | bad => trivial
        | ok R =>
          have h3 : ∀ p : Addr, outM (w (Γ.set i (some (.sh (.o p)))) M) = some R := fun p => by
            have h4 := hw p M _ (hΓ.set him (.sh (.o p)))
            rw [e3] at h4
            have h4 : w (Γ.set i (some (.sh (.o p)))) M = .rt R := h4
            rw [h4]; rfl
          show sMat i fi t tYesF fe own w Γ = .rt (.fr (.l (R.map (eL eI))))
          unfold sMat
          rw [h1]
          dsimp only
          rw [h2]
          dsimp only
          have hc : i < Γ.length ∧ M.length ≤ 16777216 ∧ ∃ R : Mx, ∀ p : Addr, outM (w (Γ.set i (some (.sh (.o p)))) M) = some R := ⟨by rw [hΓ.len]; exact him, hz, R, h3⟩
          rw [dif_pos hc]
          have h5 := Classical.choose_spec hc.2.2 0
          rw [h3 0] at h5
          rw [← Option.some.inj h5]
          rfl
      · have : lcP M = .bad := by unfold lcP; exact if_neg hz
        rw [this]; trivial
end
end Ly
end

section
set_option maxRecDepth 100000
set_option maxHeartbeats 1000000
namespace Ly
open PySem PySem.Spec L2
open PyProof.Rows hiding St
variable [Tb]
abbrev Mz := List (List D)
structure DCells (K : PySem.W.Frag) (B G H : Hp) (p : Addr) (qs : List Addr) (M : Mz) : Prop where
  top : H p = some (.lst (qs.map .ref))
  nd : (p :: qs).Nodup
  len : qs.length = M.length
  row : ∀ (j : Nat) (q : Addr) (r : List D), qs[j]? = some q → M[j]? = some r → ∃ xs, H q = some (.lst xs) ∧ Reps K G xs r
  nb : ∀ q ∈ p :: qs, Non B q ∧ G q = none
theorem DCells.at' {K : PySem.W.Frag} {B G H : Hp} {p q : Addr} {qs : List Addr} {M : Mz} (h : DCells K B G H p qs M) (hq : q ∈ p :: qs) : ∃ xs, H q = some (.lst xs) := by
  rcases List.mem_cons.mp hq with rfl | hq
  · exact ⟨_, h.top⟩
  · obtain ⟨j, hj, e⟩ := List.getElem_of_mem hq
    have hl := h.len
    obtain ⟨xs, h1, _⟩ := h.row j q M[j] (by rw [List.getElem?_eq_getElem hj, e]) (List.getElem?_eq_getElem (by omega))
    exact ⟨xs, h1⟩
theorem DCells.live {K : PySem.W.Frag} {B G H : Hp} {p q : Addr} {qs : List Addr} {M : Mz} (h : DCells K B G H p qs M) (hq : q ∈ p :: qs) : ¬ Non H q := by
  obtain ⟨xs, e⟩ := h.at' hq
  exact live_of e
theorem DCells.mono {K : PySem.W.Frag} {B G H G' H' : Hp} {p : Addr} {qs : List Addr} {M : Mz} (h : DCells K B G H p qs M) (g : Gr G H G' H') : DCells K B G' H' p qs M :=
  ⟨g.hh _ _ h.top (fun _ z => by cases z), h.nd, h.len, fun j q r h1 h2 => by
    obtain ⟨xs, h3, h4⟩ := h.row j q r h1 h2
    exact ⟨xs, g.hh _ _ h3 (fun _ z => by cases z), h4.mono g.gg⟩, fun q hq => ⟨(h.nb q hq).1, g.keepNone (h.nb q hq).2 (h.live hq)⟩⟩
def wthG (G H : Hp) (qs : List Addr) : Hp := fun a => if a ∈ qs then H a else G a
section
variable {K : PySem.W.Frag} {B G H : Hp} {p : Addr} {qs : List Addr} {M : Mz}
theorem DCells.sm (h : DCells K B G H p qs M) : Same G (wthG G H qs) := fun a o e => by
  have : a ∉ qs := fun z => by rw [(h.nb a (List.mem_cons_of_mem _ z)).2] at e; cases e
  show (if a ∈ qs then H a else G a) = some o
  rw [if_neg this]; exact e
theorem DCells.gh (h : DCells K B G H p qs M) (gh : Same G H) : Same (wthG G H qs) H := fun a o e => by
  have e : (if a ∈ qs then H a else G a) = some o := e
  split at e
  · exact e
  · exact gh a o e
theorem DCells.nt (h : DCells K B G H p qs M) (nt : NoT G) : NoT (wthG G H qs) := fun a ps e => by
  have e : (if a ∈ qs then H a else G a) = some (.tbl ps) := e
  split at e
  · rename_i ha
    obtain ⟨xs, ex⟩ := h.at' (List.mem_cons_of_mem _ ha)
    rw [ex] at e; cases e
  · exact nt a ps e
theorem DCells.top0 (h : DCells K B G H p qs M) : wthG G H qs p = none := by
  show (if p ∈ qs then H p else G p) = none
  rw [if_neg (List.nodup_cons.mp h.nd).1]; exact (h.nb p List.mem_cons_self).2
theorem reps_dl {G : Hp} : ∀ (qs : List Addr) (M : Mz), qs.length = M.length → (∀ (j : Nat) (q : Addr) (r : List D), qs[j]? = some q → M[j]? = some r → ∃ xs, G q = some (.lst xs) ∧ Reps K G xs r) → Reps K G (qs.map .ref) (M.map .l)
  | [], [], _, _ => .nil
  | [], _ :: _, h, _ => by cases h
  | _ :: _, [], h, _ => by cases h
  | q :: qs, r :: M, h, k => by
    obtain ⟨xs, h1, h2⟩ := k 0 q r rfl rfl
    exact .cons (.l h1 h2) (reps_dl qs M (by simpa using h) fun j q r h1 h2 => k (j + 1) q r h1 h2)
theorem DCells.reps (h : DCells K B G H p qs M) : Reps K (wthG G H qs) (qs.map .ref) (M.map .l) := reps_dl qs M h.len fun j q r h1 h2 => by
  obtain ⟨xs, h3, h4⟩ := h.row j q r h1 h2
  refine ⟨xs, ?_, h4.mono h.sm⟩
  show (if q ∈ qs then H q else G q) = _
  rw [if_pos (List.mem_of_getElem? h1)]; exact h3
theorem DCells.own (h : DCells K B G H p qs M) : Own K (wthG G H qs) H p (.l (M.map .l)) := .l h.top h.reps
theorem DCells.gr {G0 : Hp} (h : DCells K B G H p qs M) (g : Gr G0 B G H) : Gr G0 B (wthG G H qs) H :=
  ⟨g.hh, g.gg.trans h.sm, h.gh g.gh, fun a o e n => by
    have e : (if a ∈ qs then H a else G a) = some o := e
    split at e
    · rename_i ha; exact absurd (h.nb a (List.mem_cons_of_mem _ ha)).1 n
    · exact g.nw a o e n, fun nt => h.nt (g.gt nt), g.tb⟩
end
def spD (K : PySem.W.Frag) (mg : Str → Option Value) (n : Nat) (F : List D → Re Rv) : Sp := fun vs H Q E => ∃ G ds, ds.length = n ∧ Ok0 G H ∧ Reps K G vs ds ∧
  match F ds with
  | .ok (.sh d) => ∀ v G' H', Gr G H G' H' → Rep K G' v d → Q v H'
  | .ok (.fr (.l rs)) => ∀ p qs M G' H', rs = M.map .l → Gr G H G' H' → DCells K H G' H' p qs M → Q (.ref p) H'
  | .ok (.fr d) => ∀ p G' H', Gr G H G' H' → Non H p → G' p = none → Own K G' H' p d → Q (.ref p) H'
  | .ex e => ∀ G' H', Gr G H G' H' → ExAt ⟨K, mg, H, G, fun _ _ _ _ => True⟩ E e G' H'
  | _ => False
structure DefOkD (P : Program) (w : World) (K : PySem.W.Frag) (mg : Str → Option Value) (base : Heap) (k : Nat) (x : Str) (n : Nat) (F : List D → Re Rv) : Prop where
  ex : ∃ (f : Addr) (fd : FuncData) (ps : List Str), mg x = some (.ref f) ∧ PySem.W.keepIn K (.ref f) = true ∧ Binds K fd ps [] ∧ FnOk P w K mg base (L2N.CX P w) k f fd ps (spD K mg n F)
theorem spF_D {K : PySem.W.Frag} {mg : Str → Option Value} {n : Nat} {F : List D → Re Rv} {vs : List V} {H : Hp} {Q : VK} {E : XK} (h : spF K mg n F vs H Q E) : spD K mg n F vs H Q E := by
  obtain ⟨G, ds, hl, ok, r, q⟩ := h
  refine ⟨G, ds, hl, ok, r, ?_⟩
  cases e : F ds with
  | bad => rw [e] at q; exact q
  | ex x => rw [e] at q; exact q
  | ok rv =>
    rw [e] at q
    cases rv with
    | sh d => exact q
    | bo d => exact q
    | fr d =>
      cases d with
      | l rs => exact fun p qs M G' H' er g c => q p (wthG G' H' qs) H' (c.gr g) (c.nb p List.mem_cons_self).1 c.top0 (er ▸ c.own)
      | _ => exact q
theorem fnok_weak {P : Program} {w : World} {K : PySem.W.Frag} {mg : Str → Option Value} {base : Heap} {CX : _} {k : Nat} {f : Addr} {fd : FuncData} {ps : List Str} {sp sp' : Sp} (h : FnOk P w K mg base CX k f fd ps sp) (i : ∀ vs H Q E, sp' vs H Q E → sp vs H Q E) : FnOk P w K mg base CX k f fd ps sp' :=
  ⟨fun vs H Q E q => h.1 vs H Q E (i _ _ _ _ q), fun A outer s H args us vs Q E a b c d q => h.2 A outer s H args us vs Q E a b c d (i _ _ _ _ q)⟩
theorem DefOkD.ok {P : Program} {w : World} {K : PySem.W.Frag} {mg : Str → Option Value} {base : Heap} {k : Nat} {x : Str} {n : Nat} {F : List D → Re Rv} (h : DefOkD P w K mg base k x n F) : DefOk P w K mg base k x n F := by
  obtain ⟨f, fd, ps, h1, h2, h3, h4⟩ := h.ex
  exact ⟨f, fd, ps, h1, h2, h3, fnok_weak h4 fun _ _ _ _ q => spF_D q⟩
structure PostD (c : LC) (r : Fl) (G : Hp) (D : Ends) : Prop where
  deep : ∀ rs, r = .rt (.fr (.l rs)) → ∀ p qs M G' H', rs = M.map .l → EndOk c G' H' → Same G G' → DCells c.K c.B G' H' p qs M → D.rt (.ref p) H'
  els : (∀ rs, r ≠ .rt (.fr (.l rs))) → PostS c r G D
def tD (c : LC) (f : FS) : TS := fun D σ H => ∃ G Γ, EnvOk c G H σ Γ ∧ PostD c (f Γ) G D
def sSeqD (u w : FS) : FS := fun Γ => match u Γ with | .nx Γ' => w Γ' | .ex e Γ' => .ex e Γ' | _ => .bad
theorem PostD.later {c : LC} {r : Fl} {G G1 : Hp} {D : Ends} (g : Same G G1) (h : PostD c r G D) : PostD c r G1 D :=
  ⟨fun rs e p qs M G' H' a b s => h.deep rs e p qs M G' H' a b (g.trans s), fun n => PostS.later g (h.els n)⟩
section
variable {X : Cx} {c : LC} {i : Nat} {st : Stmt} {rest body : List Stmt} {tg it e : Expr} {pos : Pos}
theorem td_cons {u w : FS} (h1 : PS X st (tS c u)) (h2 : PSs X rest (tD c w)) : PSs X (st :: rest) (tD c (sSeqD u w)) := by
  refine PSs.weak (pss_cons h1 h2) ?_
  rintro D σ H ⟨G, Γ, en, q⟩
  refine ⟨G, Γ, en, ?_⟩
  unfold sSeqD at q
  cases e : u Γ with
  | nx Γ' => rw [e] at q; exact fun σ' G' H' e' s => ⟨G', Γ', e', PostD.later s q⟩
  | ex x Γ' => rw [e] at q; exact q.els fun _ z => by cases z
  | bk Γ' => rw [e] at q; exact (q.els fun _ z => by cases z).elim
  | ct Γ' => rw [e] at q; exact (q.els fun _ z => by cases z).elim
  | rt r => rw [e] at q; exact (q.els fun _ z => by cases z).elim
  | bad => rw [e] at q; exact (q.els fun _ z => by cases z).elim
structure DatOk (c : LC) (i : Nat) (p : Addr) (qs : List Addr) (G H : Hp) (σ : St) (Γ : Env') (M : Mz) : Prop where
  en : EnvOk c G H σ Γ
  slot : Γ[i]? = some (some (.sh (.o p)))
  cl : DCells c.K c.B G H p qs M
  sp : ∀ (j : Nat) (d : D) (a : Addr), Γ[j]? = some (some (.fr d)) → σ[j]? = some (some (.ref a)) → a ∉ p :: qs
theorem DatOk.mono {p : Addr} {qs : List Addr} {G H G' H' : Hp} {σ : St} {Γ : Env'} {M : Mz} (m : DatOk c i p qs G H σ Γ M) (g : Gr G H G' H') : DatOk c i p qs G' H' σ Γ M := ⟨m.en.mono g, m.slot, m.cl.mono g, m.sp⟩
theorem DatOk.val {p : Addr} {qs : List Addr} {G H : Hp} {σ : St} {Γ : Env'} {M : Mz} (m : DatOk c i p qs G H σ Γ M) : σ[i]? = some (some (.ref p)) := by
  obtain ⟨v, h1, h2, _⟩ := m.en.at' i _ m.slot
  cases h2
  exact h1
inductive Fn where
  | nx (Γ : Env') (M : Mz) | rt (M : Mz) | bad
abbrev FN := Env' → Mz → Fn
def PostZ (c : LC) (i : Nat) (p : Addr) (r : Fn) (G : Hp) (D : Ends) : Prop := match r with
  | .nx Γ' M' => ∀ σ' qs G' H', DatOk c i p qs G' H' σ' Γ' M' → Same G G' → D.nx σ' H'
  | .rt M' => ∀ qs G' H', EndOk c G' H' → Same G G' → DCells c.K c.B G' H' p qs M' → D.rt (.ref p) H'
  | .bad => False
def tZ (c : LC) (i : Nat) (f : FN) : TS := fun D σ H => ∃ p qs G Γ M, DatOk c i p qs G H σ Γ M ∧ PostZ c i p (f Γ M) G D
theorem PostZ.later {p : Addr} {r : Fn} {G G1 : Hp} {D : Ends} (g : Same G G1) (h : PostZ c i p r G D) : PostZ c i p r G1 D := by
  cases r with
  | nx Γ M => exact fun σ' qs G' H' e s => h σ' qs G' H' e (g.trans s)
  | rt M => exact fun qs G' H' e s => h qs G' H' e (g.trans s)
  | bad => exact h
variable {u w : FN}
def zNil : FN := fun Γ M => .nx Γ M
theorem mz_nil : PSs X [] (tZ c i zNil) := PSs.weak pss_nil fun D σ H ⟨p, qs, G, Γ, M, m, q⟩ => q σ qs G H m (Same.refl _)
def zSeq (u w : FN) : FN := fun Γ M => match u Γ M with | .nx Γ' M' => w Γ' M' | o => o
theorem mz_cons (h1 : PS X st (tZ c i u)) (h2 : PSs X rest (tZ c i w)) : PSs X (st :: rest) (tZ c i (zSeq u w)) := by
  refine PSs.weak (pss_cons h1 h2) ?_
  rintro D σ H ⟨p, qs, G, Γ, M, m, q⟩
  refine ⟨p, qs, G, Γ, M, m, ?_⟩
  unfold zSeq at q
  cases e : u Γ M with
  | nx Γ' M' => rw [e] at q; exact fun σ' qs' G' H' m' s => ⟨p, qs', G', Γ', M', m', PostZ.later s q⟩
  | rt M' => rw [e] at q; exact q
  | bad => rw [e] at q; exact q.elim
def forZ (t : Tg) (u : FN) : List D → FN
  | [], Γ, M => .nx Γ M
  | d :: ds, Γ, M => match t.set d Γ with
    | some Γ1 => (match u Γ1 M with | .nx Γ' M' => forZ t u ds Γ' M' | o => o)
    | none => .bad
def zFor (fi : FI) (t : Tg) (u : FN) : FN := fun Γ M => match fi Γ with
  | .ok ds => forZ t u ds Γ M | _ => .bad
theorem for_loopZ {p : Addr} {qs : List Addr} {M : Mz} {J : It} {ds : List D} {t : Tg} {G1 H1 : Hp} {σ : St} {Γ : Env'} {D : Ends} (hi' : i ∉ t.ix) (m0 : DatOk c i p qs G1 H1 σ Γ M) (w : WalkOk c.K G1 J ds) (q : PostZ c i p (forZ t u ds Γ M) G1 D) :
    ∃ W : Nat → Nat → St → Hp → Prop, (∃ m, W 0 m σ H1) ∧ ∀ k m σ H, W k m σ H → (J.stop k H ∧ D.nx σ H) ∨ (J.go k H ∧ ∃ N : St → Hp → Prop, (∀ σ' H', N σ' H' → ∃ m', m' < m ∧ W (k + 1) m' σ' H') ∧
      ∀ x H', J.yld k H x H' → t.tgt c.K x σ H' fun σ2 H2 => tZ c i u { D with nx := N, ct := N, bk := D.nx } σ2 H2) := by
  refine ⟨fun k m σ' H' => m = ds.length - k ∧ k ≤ ds.length ∧ ∃ qi Gi Γi Mi, DatOk c i p qi Gi H' σ' Γi Mi ∧ Same G1 Gi ∧ PostZ c i p (forZ t u (ds.drop k) Γi Mi) Gi D,
    ⟨ds.length, by simp, Nat.zero_le _, qs, G1, Γ, M, m0, Same.refl _, q⟩, ?_⟩
  rintro k m σ' H' ⟨rfl, hk, qi, Gi, Γi, Mi, mi, si, ci⟩
  by_cases hl : k < ds.length
  · obtain ⟨d, hd⟩ : ∃ d, ds[k]? = some d := ⟨ds[k], by simp [hl]⟩
    have hdrop : ds.drop k = d :: ds.drop (k + 1) := by
      rw [List.drop_eq_getElem_cons hl]
      congr 1
      simpa [hl] using hd
    rw [hdrop] at ci
    obtain ⟨go, yl⟩ := w.go Gi H' si mi.en.gh k d hd
    refine .inr ⟨go, fun σ'' H'' => ∃ qj Gj Γj Mj, DatOk c i p qj Gj H'' σ'' Γj Mj ∧ Same G1 Gj ∧ PostZ c i p (forZ t u (ds.drop (k + 1)) Γj Mj) Gj D,
      fun σ'' H'' ⟨qj, Gj, Γj, Mj, mj, sj, cj⟩ => ⟨ds.length - (k + 1), by omega, rfl, hl, qj, Gj, Γj, Mj, mj, sj, cj⟩, fun x H2 hy => ?_⟩
    obtain ⟨G2, g2, r2⟩ := yl x H2 hy
    have m2 := mi.mono g2
    unfold forZ at ci
    cases et : t.set d Γi with
    | none => rw [et] at ci; exact ci.elim
    | some Γ1 =>
      rw [et] at ci
      refine Tg.ok m2.en r2 et fun σ2 he3 hs3 => ?_
      have s2 : Same G1 G2 := si.trans g2.gg
      have m3 : DatOk c i p qi G2 H2 σ2 Γ1 Mi := ⟨he3, by rw [tset_out et hi']; exact m2.slot, m2.cl, fun j x a hj sj => by
        obtain ⟨n1, n2⟩ := tset_fr et hj
        rw [hs3 j n1] at sj
        exact m2.sp j x a n2 sj⟩
      refine ⟨p, qi, G2, Γ1, Mi, m3, ?_⟩
      have ci : PostZ c i p (match u Γ1 Mi with | .nx Γ' M' => forZ t u (ds.drop (k + 1)) Γ' M' | o => o) G2 D := PostZ.later g2.gg ci
      cases eu : u Γ1 Mi with
      | nx Γ' M' => rw [eu] at ci; exact fun σ3 q3 G3 H3 he4 s3 => ⟨q3, G3, Γ', M', he4, s2.trans s3, PostZ.later s3 ci⟩
      | rt r => rw [eu] at ci; exact ci
      | bad => rw [eu] at ci; exact ci
  · have ei : k = ds.length := by omega
    subst ei
    refine .inl ⟨w.stop H' (si.trans mi.en.gh) _ (Nat.le_refl _), ?_⟩
    rw [List.drop_length] at ci
    exact ci σ' qi Gi H' mi (Same.refl _)
theorem mz_for (hp : PassesOwn (model X.prog X.w) X.A X.env X.xe) (cy : Cy X c) {fi : FI} {t : Tg} (hi' : i ∉ t.ix) (hi : PI X tg it (tI c fi)) (hg : PG X tg (t.tgt c.K)) (hb : PSs X body (tZ c i u))
    (hs : ∀ y, foldedSetIterable it X.env y = pure y := by intro _; rfl) : PS X (.For tg it body [] pos) (tZ c i (zFor fi t u)) := by
  refine PS.weak (ps_for hp cy.calm hi hg hb hs) ?_
  rintro D σ H ⟨p, qs, G, Γ, M, m, q⟩
  unfold zFor at q
  refine ⟨G, Γ, m.en, ?_⟩
  cases e : fi Γ with
  | ok ds =>
    rw [e] at q
    intro J G1 H1 g1 w
    exact for_loopZ hi' (m.mono g1) w (PostZ.later g1.gg q)
  | ex x => rw [e] at q; exact q.elim
  | bad => rw [e] at q; exact q.elim
def zApp (fe : FE) : FN := fun Γ M => match fe Γ with
  | .ok (.fr (.l r)) => if M.length < 16777216 then .nx Γ (M ++ [r]) else .bad
  | _ => .bad
theorem DatOk.app {p a : Addr} {qs : List Addr} {G H : Hp} {σ : St} {Γ : Env'} {M : Mz} {r : List D} {xs : List V} (m : DatOk c i p qs G H σ Γ M) (nB : Non c.B a) (gN : G a = none) (ha : H a = some (.lst xs)) (hr : Reps c.K G xs r) (na : a ∉ p :: qs) (sp : ∀ (j : Nat) (d : D) (b : Addr), Γ[j]? = some (some (.fr d)) → σ[j]? = some (some (.ref b)) → b ≠ a) : DatOk c i p (qs ++ [a]) G (upd H p (.lst (qs.map .ref ++ [.ref a]))) σ Γ (M ++ [r]) := by
  have en := m.en
  obtain ⟨pB, pG⟩ := m.cl.nb p List.mem_cons_self
  have pa : p ≠ a := fun z => na (z ▸ List.mem_cons_self)
  refine ⟨⟨Kept.upd en.bh pB, en.g0, fun b o e => ?_, en.gf, en.gt, tabs_put en.tb m.cl.top ⟨fun _ z => (by cases z), fun _ z => (by cases z)⟩, en.len, fun k rv hk => ?_, en.sep⟩, m.slot, ⟨?_, ?_, by simp [m.cl.len], fun k q r2 h1 h2 => ?_, fun q hq => ?_⟩, fun j d b hj sj hb => ?_⟩
  · have : b ≠ p := fun z => by rw [z, pG] at e; cases e
    rw [upd_ne this]; exact en.gh b o e
  · obtain ⟨v, h1, h2, h3⟩ := en.at' k rv hk
    refine ⟨v, h1, ?_, h3⟩
    cases rv with
    | sh d => exact h2
    | fr d =>
      obtain ⟨b, rfl, n, g, o⟩ := h2
      have hb : b ≠ p := fun z => m.sp k d b hk h1 (z ▸ List.mem_cons_self)
      refine ⟨b, rfl, n, g, ?_⟩
      cases o with
      | l w1 w2 => exact .l (by rw [upd_ne hb]; exact w1) w2
      | dk w1 w2 w3 => exact .dk (by rw [upd_ne hb]; exact w1) w2 w3
      | dt w1 w2 w3 => exact .dt (by rw [upd_ne hb]; exact w1) w2 w3
    | bo d => exact absurd rfl (h3 d)
  · rw [upd_same, List.map_append]; rfl
  · rw [← List.cons_append, List.nodup_append]
    exact ⟨m.cl.nd, by simp, fun x hx y hy e => by
      have : y = a := by simpa using hy
      subst this
      exact na (e ▸ hx)⟩
  · by_cases hk : k < qs.length
    · rw [List.getElem?_append_left hk] at h1
      rw [List.getElem?_append_left (by rw [← m.cl.len]; exact hk)] at h2
      have hne : q ≠ p := fun z => (List.nodup_cons.mp m.cl.nd).1 (z ▸ List.mem_of_getElem? h1)
      rw [upd_ne hne]
      exact m.cl.row k q r2 h1 h2
    · rw [List.getElem?_append_right (by omega)] at h1
      rw [List.getElem?_append_right (by rw [← m.cl.len]; omega)] at h2
      have hk0 : k - qs.length = 0 := by
        have := (List.getElem?_eq_some_iff.mp h1).1
        simpa using this
      rw [hk0] at h1
      rw [← m.cl.len, hk0] at h2
      cases h1
      cases h2
      rw [upd_ne (Ne.symm pa)]
      exact ⟨xs, ha, hr⟩
  · rw [← List.cons_append] at hq
    rcases List.mem_append.mp hq with hq | hq
    · exact m.cl.nb q hq
    · cases List.mem_singleton.mp hq
      exact ⟨nB, gN⟩
  · rw [← List.cons_append] at hb
    rcases List.mem_append.mp hb with hb | hb
    · exact m.sp j d b hj sj hb
    · exact sp j d b hj sj (List.mem_singleton.mp hb)
theorem mz_app {x : Str} {px apos cpos : Pos} {fe : FE} (hN : X.N[i]? = some x) (hv : Vis X.env.scope x) (ha : PE X e (tE c fe))
    (hd : (x == ("__debug__" : Str)) = false := by decide) (hcd : (x == ("__classdict__" : Str)) = false := by decide)
    (hsw : swapsWith (.Call (.Attribute (.Name x px) "append" apos) [e] [] cpos) none pos.line X.env = pure false := by rfl)
    (hbase : attributeBase (.Name x px) "append" X.env (eval (.Name x px) X.env) = eval (.Name x px) X.env := by rfl)
    (hfew : ((backTo cpos (starEach [e] X.env)).all (fun x => !x.1) && (backToKw cpos (keywordEach [] X.env)).all (fun x => x.1.isSome)
      && decide ([e].length + ([] : List Keyword).length + (if ([] : List Keyword).isEmpty then 0 else 1) < 30)) = true := by rfl)
    (hline : (apos.endLine == cpos.line) = true := by rfl) (hs : starEach [e] X.env = [(false, eval e X.env)] := by rfl) :
    PS X (.Expr (.Call (.Attribute (.Name x px) "append" apos) [e] [] cpos) pos) (tZ c i (zApp fe)) := by
  refine PS.weak (ps_expr (pe_bm PySem.F.plainAttrs_list PySem.F.slot_list_append PySem.F.type_list_append mt_append (pe_var hN hv hd hcd) (pa_cons ha pa_nil hs) hbase hfew hline hs) hsw) ?_
  rintro D σ H ⟨p, qs, G, Γ, M, m, q⟩
  unfold zApp at q
  split at q
  · rename_i r er
    split at q
    · rename_i hl
      refine ⟨_, m.val, .inl ⟨rfl, _, SqL.of m.cl.top⟩, G, Γ, m.en, ?_⟩
      rw [er]
      intro v G1 H1 g1 v1 fr1
      obtain ⟨a, rfl, nB, gN, o⟩ := v1
      obtain ⟨a', ea, nH⟩ := fr1
      cases ea
      have m1 := m.mono g1
      cases o with
      | @l xs _ w1 w2 =>
        refine ⟨p, _, .ref a, rfl, rfl, m1.cl.top, by rw [List.length_map, m1.cl.len, sizeLine_eq]; exact hl, ?_⟩
        refine q σ (qs ++ [a]) G1 _ (m1.app nB gN w1 w2 (fun z => m.cl.live z nH) fun j d b hj sj z => ?_) g1.gg
        obtain ⟨v', h1, h2, _⟩ := m.en.at' j _ hj
        rw [sj] at h1
        cases h1
        obtain ⟨b', eb, _, _, ob⟩ := h2
        cases eb
        exact ob.live (z ▸ nH)
    · exact q.elim
  · exact q.elim
def zRet : FN := fun _ M => .rt M
theorem mz_ret {x : Str} {px : Pos} (hN : X.N[i]? = some x) (hv : Vis X.env.scope x) (hd : (x == ("__debug__" : Str)) = false := by decide) (hcd : (x == ("__classdict__" : Str)) = false := by decide) : PS X (.Return (some (.Name x px)) pos) (tZ c i zRet) := by
  refine PS.weak (ps_ret (pe_var hN hv hd hcd)) ?_
  rintro D σ H ⟨p, qs, G, Γ, M, m, q⟩
  exact ⟨_, m.val, q qs G H m.en.end (Same.refl _) m.cl⟩
def outZ : Fn → Option Mz
  | .rt M => some M | _ => none
open Classical in
noncomputable def sDeep (i : Nat) (w : FN) : FS := fun Γ => if h : i < Γ.length ∧ ∃ R : Mz, ∀ p : Addr, outZ (w (Γ.set i (some (.sh (.o p)))) []) = some R then .rt (.fr (.l ((Classical.choose h.2).map .l))) else .bad
theorem td_deep (cy : Cy X c) {x : Str} {px : Pos} (hi : X.N[i]? = some x) (hx : Loc X.env.scope x) (ha : PE X e (tE c (eLst aNil))) (hw : PSs X rest (tZ c i w))
    (hs : swapsWith e (some (.Name x px)) pos.line X.env = pure false := by rfl) (hf : X.fn x = true ∨ X.env.scope.names.lookup x = some .local := by first | exact .inl rfl | exact .inr rfl) :
    PSs X (.Assign [.Name x px] e pos :: rest) (tD c (sDeep i w)) := by
  refine PSs.weak (pss_cons (ps_set cy.nd hi hx ha hs hf) hw) ?_
  rintro D σ H ⟨G, Γ, he, q⟩
  unfold sDeep at q
  split at q
  · rename_i h
    obtain ⟨hil, hR⟩ := h
    refine ⟨G, Γ, he, ?_⟩
    show Post c (eLst aNil Γ) σ G H _
    intro v G1 H1 g1 v1 fr1
    obtain ⟨p, rfl, nB, gN, o⟩ := v1
    have out := Classical.choose_spec hR p
    generalize Classical.choose hR = R at q out
    have heS := (he.mono g1).setSh i (Rep.o (K := c.K) (G := G1) p)
    obtain ⟨p', ep, nH⟩ := fr1
    cases ep
    cases o with
    | @l xs _ w1 w2 =>
      cases w2
      refine ⟨p, [], G1, _, [], ⟨heS, List.getElem?_set_self hil, ⟨w1, by simp, rfl, fun j q r h1 _ => by simp at h1, fun q hq => by cases List.mem_singleton.mp hq; exact ⟨nB, gN⟩⟩, fun j d a hj sj hb => ?_⟩, ?_⟩
      · rcases set_get hj with ⟨_, z, _⟩ | ⟨nj, hj⟩
        · cases z
        · rw [List.getElem?_set_ne (Ne.symm nj)] at sj
          obtain ⟨v', h1, h2, _⟩ := he.at' j _ hj
          rw [sj] at h1
          cases h1
          obtain ⟨b', eb, _, _, ob⟩ := h2
          cases eb
          exact ob.live ((List.mem_singleton.mp hb) ▸ nH)
      · cases ew : w (Γ.set i (some (.sh (.o p)))) [] with
        | nx Γ' M' => rw [ew] at out; cases out
        | bad => rw [ew] at out; cases out
        | rt M' =>
          rw [ew] at out
          cases out
          exact fun qs G'' H'' e' s dc => q.deep _ rfl p qs _ G'' H'' rfl e' (g1.gg.trans s) dc
  · exact (q.els fun _ z => by cases z).elim
end
section
variable {P : Program} {w : World} {K : PySem.W.Frag} {mg : Str → Option Value} {base : Heap}
theorem def_fnZ {x qual : Str} {st : Stmt} {f : Addr} {fd : FuncData} {N ps : List Str} {k n m : Nat} {body : FS} (F : Fun K x qual st f fd) (S : FnScope N ps (defScope st))
    (hn : ps.length = n) (hN : N.length = m)
    (h : ∀ (cdv : Value) (A : Around) (outer : List Env) (s : Shared) (H G : Hp) (E : XK), Room k (A.deeper (envOfC qual (defScope st) s.heap.objs.size f cdv)) →
      Cy (cxOf (L2N.CX P w) P w K mg base N qual (defScope st) f cdv A outer s H E) (dLc K mg H G E) →
      PassesOwn (model P w) (A.deeper (envOfC qual (defScope st) s.heap.objs.size f cdv)) (envOfC qual (defScope st) s.heap.objs.size f cdv) (cxOf (L2N.CX P w) P w K mg base N qual (defScope st) f cdv A outer s H E).xe →
      PSs (cxOf (L2N.CX P w) P w K mg base N qual (defScope st) f cdv A outer s H E) (defBody st) (tD (dLc K mg H G E) body)) : FnOk P w K mg base (L2N.CX P w) (k + 1) f fd ps (spD K mg n (runF n m body)) := by
  refine fun_okN F S (fun vs H Q E hs => ?_) (fun cdv A outer s H vs Q E hr hs => ?_)
  · obtain ⟨G, ds, hl, gh, r, _⟩ := hs
    rw [r.length, hl, hn]
  · obtain ⟨G, ds, hl, gh, r, q⟩ := hs
    have cy : Cy (cxOf (L2N.CX P w) P w K mg base N qual (defScope st) f cdv A outer s H E) (dLc K mg H G E) := ⟨rfl, rfl, L2N.takes_of rfl rfl rfl rfl, rfl, S.nd, hr.units⟩
    refine ⟨_, h cdv A outer s H G E hr cy (passes_of (X := cxOf (L2N.CX P w) P w K mg base N qual (defScope st) f cdv A outer s H E) rfl), G, _, start_env gh r, ?_⟩
    have gr : ∀ {G' H' : Hp}, EndOk (dLc K mg H G E) G' H' → Gr G H G' H' := fun e => ⟨e.bh, e.g0, e.gh, e.gf, fun _ => e.gt, fun _ => e.tb⟩
    unfold runF at q
    rw [if_pos hl] at q
    rw [hN, hl]
    cases eb : body (ds.map (fun d => some (.sh d)) ++ List.replicate (m - n) none) with
    | nx Γ' => rw [eb] at q; exact ⟨fun _ z => (by cases z), fun _ σ' G' H' he s => q .non G' H' (gr he.end) .n⟩
    | rt rv =>
      rw [eb] at q
      cases rv with
      | sh d => exact ⟨fun _ z => (by cases z), fun _ v G' H' he s hv _ => q v G' H' (gr he) hv⟩
      | fr d =>
        refine ⟨fun rs e p qs M G' H' er he s dc => ?_, fun n => ?_⟩
        · cases e
          exact q p qs M G' H' er (gr he) dc
        · cases d with
          | l rs => exact absurd rfl (n rs)
          | _ => exact fun v G' H' he s ⟨p, e, bp, gp, o⟩ _ => by subst e; exact q p G' H' (gr he) bp gp o
      | bo d => exact ⟨fun _ z => (by cases z), fun _ v G' H' he s hv hn => absurd rfl (hn d)⟩
    | ex e Γ' => rw [eb] at q; exact ⟨fun _ z => (by cases z), fun _ σ' G' H' he s C d hC hd => q G' H' (gr he.end) C d hC hd⟩
    | bk Γ' => rw [eb] at q; exact q.elim
    | ct Γ' => rw [eb] at q; exact q.elim
    | bad => rw [eb] at q; exact q.elim
end
section
variable {X : Cx} {c : LC} {e : Expr} {es : List Expr} {fa : FA} {pos : Pos}
def eCallD (n : Nat) (F : List D → Re Rv) (fa : FA) : FE := fun Γ => (fa Γ).bind fun ds => if ds.length = n then (match F ds with
  | .ok (.fr (.l rs)) => if (rs.all fun d => match d with | .l _ => true | _ => false) = true then .ok (.fr (.l rs)) else .bad | .ex e => .ex e | _ => .bad) else .bad
theorem all_l : ∀ {rs : List D}, (rs.all fun d => match d with | .l _ => true | _ => false) = true → ∃ M : Mz, rs = M.map .l
  | [], _ => ⟨[], rfl⟩
  | d :: rs, h => by
    rw [List.all_cons, Bool.and_eq_true] at h
    obtain ⟨M, rfl⟩ := all_l h.2
    cases d with
    | l r => exact ⟨r :: M, rfl⟩
    | _ => exact absurd h.1 (by simp)
theorem re_callD (cy : Cy X c) {x : Str} {p : Pos} {k n : Nat} {F : List D → Re Rv} (h : DefOkD X.prog X.w X.K X.mg X.base k x n F) (hr : Room k X.A) (hg : Gl X x) (ha : PA X (e :: es) (tA c fa))
    (hdb : (x == ("__debug__" : Str)) = false := by decide) (he : starEach (e :: es) X.env = (false, eval e X.env) :: starEach es X.env := by rfl) (hpl : (backTo pos (starEach es X.env)).any (·.1) = false := by rfl) :
    PE X (.Call (.Name x p) (e :: es) [] pos) (tEn c (eCallD n F fa)) := by
  obtain ⟨f, fd, ps, h1, h2, h3, h4⟩ := h.ex
  refine PE.weak (pe_callS (E := WE c.W) h4 hr hg h1 h2 h3 (fun σ => L2N.passAt cy.tk σ) ha hdb he hpl) ?_
  rintro σ H Q ⟨G, Γ, hen, q⟩
  unfold eCallD at q
  refine ⟨G, Γ, hen, ?_⟩
  cases eA : fa Γ with
  | bad => rw [eA] at q; exact q
  | ex x => rw [eA] at q; exact q
  | ok ds =>
    rw [eA] at q
    simp only [Re.bind_ok] at q
    intro vs G1 H1 g1 rs
    have en1 := hen.mono g1
    split at q
    · rename_i hn
      refine ⟨G1, ds, hn, en1.ok0, by rw [cy.K]; exact rs, ?_⟩
      cases eF : F ds with
      | bad => rw [eF] at q; exact q
      | ex x => rw [eF] at q; exact fun G' H' g' C d hC hd => q G' H' (g1.trans g') C d (by rw [← cy.mg]; exact hC) (by rw [← cy.K]; exact hd)
      | ok r =>
        rw [eF] at q
        cases r with
        | sh d => exact q.elim
        | bo d => exact q.elim
        | fr d =>
          cases d with
          | l rs' =>
            dsimp only at q
            split at q
            · rename_i hall
              intro p' qs M G' H' er g' dc
              rw [cy.K] at dc
              subst er
              refine q p' (wthG G' H' qs) H' (qs.map .ref) (g1.trans (dc.gr g')) (Kept.non g1.hh (dc.nb p' List.mem_cons_self).1) dc.top0 dc.top dc.reps fun x hx => ?_
              obtain ⟨a, ha', rfl⟩ := List.mem_map.mp hx
              obtain ⟨j, hj, ej⟩ := List.getElem_of_mem ha'
              have hlen := dc.len
              obtain ⟨ys, k1, k2⟩ := dc.row j a M[j] (by rw [List.getElem?_eq_getElem hj, ej]) (List.getElem?_eq_getElem (by omega))
              refine ⟨a, ys, M[j], rfl, Kept.non g1.hh (dc.nb a (List.mem_cons_of_mem _ ha')).1, ?_, k2.length, List.mem_map.mpr ⟨_, List.getElem_mem _, rfl⟩⟩
              show (if a ∈ qs then H' a else G' a) = _
              rw [if_pos ha']; exact k1
            · exact q.elim
          | _ => exact q.elim
    · exact q.elim
theorem sp_appT {j : Nat} {y : Str} {py apos cpos pos p1 p2 pt : Pos} {t : Str} {z : Int} {j1 j2 x1 : Nat} (hN : X.N[j]? = some y) (hv : Vis X.env.scope y)
    (hd : (y == ("__debug__" : Str)) = false := by decide) (hcd : (y == ("__classdict__" : Str)) = false := by decide)
    (hsw : swapsWith (.Call (.Attribute (.Name y py) "append" apos) [.Tuple [.Constant (.str t) j1 p1, .Constant (.int z) j2 p2] x1 pt] [] cpos) none pos.line X.env = pure false := by rfl)
    (hbase : attributeBase (.Name y py) "append" X.env (eval (.Name y py) X.env) = eval (.Name y py) X.env := by rfl)
    (hfew : ((backTo cpos (starEach [.Tuple [.Constant (.str t) j1 p1, .Constant (.int z) j2 p2] x1 pt] X.env)).all (fun x => !x.1) && (backToKw cpos (keywordEach [] X.env)).all (fun x => x.1.isSome)
      && decide ([Expr.Tuple [.Constant (.str t) j1 p1, .Constant (.int z) j2 p2] x1 pt].length + ([] : List Keyword).length + (if ([] : List Keyword).isEmpty then 0 else 1) < 30)) = true := by rfl)
    (hline : (apos.endLine == cpos.line) = true := by rfl) (hs : starEach [.Tuple [.Constant (.str t) j1 p1, .Constant (.int z) j2 p2] x1 pt] X.env = [(false, eval (.Tuple [.Constant (.str t) j1 p1, .Constant (.int z) j2 p2] x1 pt) X.env)] := by rfl)
    (hs1 : starEach [.Constant (.str t) j1 p1, .Constant (.int z) j2 p2] X.env = (false, eval (.Constant (.str t) j1 p1) X.env) :: starEach [.Constant (.int z) j2 p2] X.env := by rfl)
    (hs2 : starEach [.Constant (.int z) j2 p2] X.env = [(false, eval (.Constant (.int z) j2 p2) X.env)] := by rfl) :
    ∃ tb, PSs X [.Expr (.Call (.Attribute (.Name y py) "append" apos) [.Tuple [.Constant (.str t) j1 p1, .Constant (.int z) j2 p2] x1 pt] [] cpos) pos] tb ∧ Spoils j tb := by
  refine ⟨_, pss_one (ps_expr (pe_bm PySem.F.plainAttrs_list PySem.F.slot_list_append PySem.F.type_list_append mt_append (pe_var hN hv hd hcd) (pa_cons (pe_tup (pa_cons pe_str (pa_cons pe_int pa_nil hs2) hs1)) pa_nil hs) hbase hfew hline hs) hsw), ?_⟩
  intro D σ H q ys e1 e2 hl hq
  refine ⟨_, e1, .inl ⟨rfl, _, SqL.of e2⟩, ?_⟩
  refine ⟨by show 2 ≤ sizeLine; rw [sizeLine_eq]; omega, fun a ha => ?_⟩
  have qa : q ≠ a := fun z => by rw [z, ha] at e2; cases e2
  refine ⟨q, ys, .ref a, rfl, rfl, by rw [upd_ne qa]; exact e2, hl, hq _ (upd H a _) (by simp) (fun b hb => ?_) fun tb => ?_⟩
  · have : b ≠ a := fun z => hb (z ▸ .of ha)
    rw [upd_ne this]
  · exact tb.ext fun b u e => by rw [upd_ne (ne_of_none e ha)]; exact e
end
end Ly
end

section
set_option maxRecDepth 100000
set_option maxHeartbeats 1000000
namespace Ly
open PySem PySem.Spec L2
open PyProof.Rows hiding St
section
variable {m : Nat} {L : Lk} {k k1 k2 k3 : Kd} {α β τ ω S : Type} {e : τ → D} {ea : α → D} {eb : β → D} {f g h : FE} {fi : FI} {ft : FT} {fr : FE} {fa : FA} {u w0 : FS} {v w : FN} {M : List (List α)} {i j : Nat}
def encM (ea : α → D) (M : List (List α)) : Mz := M.map fun r => r.map ea
def RZ {ω : Type} (P : ω → Fn → Prop) (T : Re ω) (r : Fn) : Prop := match T with | .ok a => P a r | _ => True
def BZ {ω : Type} (m : Nat) (L : Lk) (M : Mz) (P : ω → Fn → Prop) (T : Re ω) (u : FN) : Prop := ∀ Γ, Ag m L Γ → RZ P T (u Γ M)
def PNz (m : Nat) (ea : α → D) (Lo : S → Lk) (Mo : S → List (List α)) : S → Fn → Prop := fun s r => ∃ Γ', r = .nx Γ' (encM ea (Mo s)) ∧ Ag m (Lo s) Γ'
def PTz (ea : α → D) : List (List α) → Fn → Prop := fun M r => r = .rt (encM ea M)
theorem bz_nil {s : S} {Lo : S → Lk} {Mo : S → List (List α)} (hs : subL (Lo s) L) (hm : Mo s = M) : BZ m L (encM ea M) (PNz m ea Lo Mo) (.ok s) zNil := fun Γ hΓ => ⟨Γ, by rw [hm]; rfl, hΓ.sub hs⟩
theorem bz_ret : BZ m L (encM ea M) (PTz ea) (.ok M) zRet := fun _ _ => rfl
theorem bz_last {T : Re ω} {Mz : Mz} {P : ω → Fn → Prop} (h : BZ m L Mz P T (zSeq v zNil)) : BZ m L Mz P T v := fun Γ hΓ => by
  have h1 := h Γ hΓ
  unfold zSeq at h1
  cases e : v Γ Mz with
  | nx Γ' M' => rw [e] at h1; exact h1
  | rt M' => rw [e] at h1; exact h1
  | bad => rw [e] at h1; exact h1
theorem bz_app {x : Re (List α)} {K : List (List α) → Re ω} {P : ω → Fn → Prop} {fe : FE} (hx : ER m L .fr (eL ea) x fe) (hw : ∀ M', BZ m L (encM ea M') P (K M') w) : BZ m L (encM ea M) P (x.bind fun a => (appT M a).bind K) (zSeq (zApp fe) w) := fun Γ hΓ => by
  have h1 := hx Γ hΓ
  cases x with
  | ex _ => trivial
  | bad => trivial
  | ok r =>
    have h1 : fe Γ = .ok (.fr (.l (r.map ea))) := h1
    show RZ P ((appT M r).bind K) _
    unfold zSeq zApp
    rw [h1]
    dsimp only
    by_cases hl : M.length < 16777216
    · rw [appT_ok hl, if_pos (by unfold encM; rw [List.length_map]; exact hl)]
      have : encM ea M ++ [r.map ea] = encM ea (M ++ [r]) := by unfold encM; rw [List.map_append]; rfl
      rw [this]
      exact hw _ Γ hΓ
    · have : appT M r = .bad := by unfold appT; exact if_neg hl
      rw [this]; trivial
theorem forZ_t {t : Tg} {en : β → Lk} {Lh : S → Lk} {Mh : S → List (List α)} {B : S → β → Re S} (ht : TgR m eb t en) (hb : ∀ s a, BZ m (en a ++ Lh s) (encM ea (Mh s)) (PNz m ea Lh Mh) (B s a) v) : ∀ (as : List β) (s : S) (Γ : Env'), Ag m (Lh s) Γ → RZ (PNz m ea Lh Mh) (forT B as s) (forZ t v (as.map eb) Γ (encM ea (Mh s)))
  | [], s, Γ, hΓ => ⟨Γ, rfl, hΓ⟩
  | a :: as, s, Γ, hΓ => by
    obtain ⟨Γ1, h1, h2⟩ := ht _ a Γ hΓ
    have h3 := hb s a Γ1 h2
    rw [List.map_cons, forT_cons]
    unfold forZ
    rw [h1]
    dsimp only
    cases eB : B s a with
    | ok s' =>
      rw [eB] at h3
      obtain ⟨Γ', h4, h5⟩ := h3
      rw [h4]
      exact forZ_t ht hb as s' Γ' h5
    | ex z => trivial
    | bad => trivial
theorem bz_for {t : Tg} {en : β → Lk} {Lh : S → Lk} {Mh : S → List (List α)} {B : S → β → Re S} {x : Re (List β)} {s0 : S} {K : S → Re ω} {P : ω → Fn → Prop} (hi : IR m L eb x fi) (ht : TgR m eb t en) (hs : subL (Lh s0) L) (hm : Mh s0 = M) (hb : ∀ s a, BZ m (en a ++ Lh s) (encM ea (Mh s)) (PNz m ea Lh Mh) (B s a) v) (hw : ∀ s, BZ m (Lh s) (encM ea (Mh s)) P (K s) w) :
    BZ m L (encM ea M) P (x.bind fun as => (forT B as s0).bind K) (zSeq (zFor fi t v) w) := fun Γ hΓ => by
  have h1 := hi Γ hΓ
  subst hm
  cases x with
  | ex _ => trivial
  | bad => trivial
  | ok as =>
    have h1 : fi Γ = .ok _ := h1
    have h2 := forZ_t ht hb as s0 Γ (hΓ.sub hs)
    show RZ P ((forT B as s0).bind K) _
    unfold zSeq zFor
    rw [h1]
    dsimp only
    cases eF : forT B as s0 with
    | ok s =>
      rw [eF] at h2
      obtain ⟨Γ', h3, h4⟩ := h2
      rw [h3]
      exact hw s Γ' h4
    | ex z => trivial
    | bad => trivial
theorem bg_deep {T : Re (List (List α))} (him : i < m) (hw : ∀ p : Addr, BZ m ((i, .sh (.o p)) :: L) (encM ea ([] : List (List α))) (PTz ea) T w) : BG m L (PT .fr (eL (eL ea))) (nxT T) (sDeep i w) := fun Γ hΓ => by
  cases T with
  | ex _ => trivial
  | bad => trivial
  | ok R =>
    have h3 : ∀ p : Addr, outZ (w (Γ.set i (some (.sh (.o p)))) []) = some (encM ea R) := fun p => by
      have h4 := hw p _ (hΓ.set him (.sh (.o p)))
      have h4 : w (Γ.set i (some (.sh (.o p)))) [] = .rt (encM ea R) := h4
      rw [h4]; rfl
    show sDeep i w Γ = .rt (.fr (.l (R.map (eL ea))))
    unfold sDeep
    have hc : i < Γ.length ∧ ∃ R : Mz, ∀ p : Addr, outZ (w (Γ.set i (some (.sh (.o p)))) []) = some R := ⟨by rw [hΓ.len]; exact him, _, h3⟩
    rw [dif_pos hc]
    have h5 := Classical.choose_spec hc.2 0
    rw [h3 0] at h5
    rw [← Option.some.inj h5]
    unfold encM
    rw [List.map_map]
    rfl
theorem seqD_ex : sSeqD (sEx f) u = sSeq (sEx f) u := by
  funext Γ
  unfold sSeqD sSeq sEx
  cases f Γ with
  | ok r => rfl
  | ex z => rfl
  | bad => rfl
theorem er_fzP {i : Nat} {x : Re τ} {f : FE} (hp : ∀ a, (e a).plain = true) (hx : ER m (frzL i L) .sh e x f) : ER m L .sh e (nxT x) (eFz i f) := fun Γ hΓ => by
  have h1 := hx _ (hΓ.frz i)
  cases x with
  | ok a =>
    have h1 : f (frz i Γ) = .ok (.sh (e a)) := h1
    show eFz i f Γ = _
    unfold eFz
    rw [h1]
    dsimp only
    rw [if_pos (hp a)]
    rfl
  | ex z => trivial
  | bad => trivial
def lensE (ea : α → D) (rs : List (List α)) : Bool := lens (rs.map (eL ea))
theorem lensE_ok {rs : List (List α)} (h : ∀ zs ∈ rs, zs.length + rs.length < 16777216) : lensE ea rs = true := by
  unfold lensE lens
  rw [List.all_eq_true]
  intro d hd
  obtain ⟨zs, hz, rfl⟩ := List.mem_map.mp hd
  simpa using h zs hz
theorem cn_callD {n : Nat} {F : List D → Re Rv} {ds : List D} {x : Re (List (List α))} (ha : AR m L ds fa) (hn : ds.length = n) (hF : RE1 .fr (eL (eL ea)) x (F ds)) : ER m L .fr (eL (eL ea)) x (eCallD n F fa) := fun Γ hΓ => by
  unfold eCallD
  rw [ha Γ hΓ, Re.bind_ok, if_pos hn]
  cases x with
  | ok rs =>
    have hF : F ds = .ok (.fr (.l (rs.map (eL ea)))) := hF
    rw [hF]
    dsimp only
    rw [if_pos]
    · rfl
    · rw [List.all_eq_true]
      intro d hd
      obtain ⟨zs, hz, rfl⟩ := List.mem_map.mp hd
      rfl
  | ex z => have hF : F ds = .ex z := hF; rw [hF]; rfl
  | bad => trivial
theorem bg_spoilE {x : Re (List (List α))} {t : List (List α) → Re Bool} {K : List (List α) → Re ω} {P : ω → Fl → Prop} {L' : Lk} {call : FE} (hi : i < m) (hj : j < m) (hs : SpL i j L L') (hc : ER m L .fr (eL (eL ea)) x call) (ht : ∀ rs, TR m ((i, .fr (eL (eL ea) rs)) :: L) (t rs) ft) (hw : ∀ rs, BG m L' P (K rs) w0) :
    BG m L P (x.bind fun rs => (t rs).bind fun b => if b = true then Re.bad else if lensE ea rs = true then K rs else Re.bad) (sSpoil i j call ft fr w0) := fun Γ hΓ => by
  have h1 := hc Γ hΓ
  unfold sSpoil
  cases x with
  | ex z => have h1 : call Γ = .ex z := h1; rw [h1]; exact ⟨Γ, rfl⟩
  | bad => trivial
  | ok rs =>
    have h1 : call Γ = .ok (.fr (.l (rs.map (eL ea)))) := h1
    have h2 := ht rs _ (hΓ.set hi (.fr (eL (eL ea) rs)))
    rw [h1]
    show RS P ((t rs).bind fun b => if b = true then Re.bad else if lensE ea rs = true then K rs else Re.bad) ((ft (Γ.set i (some (.fr (eL (eL ea) rs))))).fl _ _)
    cases et : t rs with
    | ex z =>
      rw [et] at h2
      have h2 : ft _ = .ex z := h2
      rw [h2]; exact ⟨_, rfl⟩
    | bad => trivial
    | ok b =>
      rw [et] at h2
      have h2 : ft _ = .ok b := h2
      rw [h2]
      cases b with
      | true => trivial
      | false =>
        show RS P (if lensE ea rs = true then K rs else Re.bad) (if lens (rs.map (eL ea)) = true ∧ i < Γ.length ∧ j < Γ.length then w0 _ else Fl.bad)
        by_cases hl : lensE ea rs = true
        · rw [if_pos hl, if_pos ⟨hl, by rw [hΓ.len]; exact hi, by rw [hΓ.len]; exact hj⟩]
          refine hw rs _ ⟨by simp [clr, hΓ.len], fun n r hn => ?_⟩
          obtain ⟨n1, n2, ⟨d, rfl⟩, h3⟩ := hs n r hn
          rw [List.getElem?_set_ne (Ne.symm n2), List.getElem?_set_ne (Ne.symm n1)]
          unfold clr
          rw [List.getElem?_map, hΓ.at' n _ h3]
          rfl
        · rw [if_neg hl]; trivial
end
end Ly
end

section
set_option maxRecDepth 100000
set_option maxHeartbeats 2000000
namespace Ly
open PySem PySem.Spec L2
open PyProof.Rows hiding St
section
variable [Tb] {X : Cx} {c : LC} {a b e o : Expr} {f g : FE} {pos : Pos}
theorem callR_or2 {X : Cx} {v : Value} {r r' : List V → Hp → VK → Prop} (h : CallR X v r) (h' : CallR X v r') : CallR X v fun xs H Q => r xs H Q ∨ r' xs H Q := fun pins s σ H xs us Q I rel w =>
  w.elim (h pins s σ H xs us Q I rel) (h' pins s σ H xs us Q I rel)
def eMs (k : Str → Rv → Re Rv) (f g : FE) : FE := fun Γ => (f Γ).bind fun x => match x.d with
  | .s s => (g Γ).bind fun y => k s y
  | _ => .bad
def OkM (c : LC) (r : V → List V → Hp → VK → Prop) (k : Str → Rv → Re Rv) : Prop := ∀ (σ : St) (G H : Hp) (s : Str) (y : V) (ry : Rv) (Q : VK), Same G H → Kept c.B H → RV c G H y ry → Post c (k s ry) σ G H Q → r (.str s) [y] H Q
theorem tE_M {k : Str → Rv → Re Rv} {r : V → List V → Hp → VK → Prop} (hk : OkM c r k) : ∀ σ H Q, tE c (eMs k f g) σ H Q → tM1 r (tE c f) (tE c g) σ H Q := by
  rintro σ H Q ⟨G, Γ, he, q⟩
  refine eE he q fun rx x G1 H1 e1 g1 v1 fr1 he1 q1 => ?_
  split at q1
  · rename_i s es
    have ex := v1.str es
    subst ex
    refine ⟨⟨s, rfl⟩, ?_⟩
    exact eE he1 q1 fun ry y G2 H2 e2 g2 v2 fr2 he2 q2 => hk σ G2 H2 s y ry Q he2.gh he2.bh v2 q2
  · exact q1.elim
def kSplit (s : Str) (y : Rv) : Re Rv := match y.d with
  | .s t => if (t.length == 0) = false ∧ s.length + 2 ≤ sizeLine then .ok (.fr (.l ((Txt.split s t).map D.s))) else .bad
  | _ => .bad
theorem re_split {apos : Pos} (ho : PE X o (tE c f)) (he : PE X e (tE c g)) (hs : starEach [e] X.env = [(false, eval e X.env)] := by rfl) (hbase : attributeBase o "split" X.env (eval o X.env) = eval o X.env := by rfl) (hline : (apos.endLine == pos.line) = true := by rfl) :
    PE X (.Call (.Attribute o "split" apos) [e] [] pos) (tE c (eMs kSplit f g)) := by
  refine PE.weak (pe_split ho he hs hbase hline) (tE_M ?_)
  intro σ G H s y ry Q gh bh hy q
  unfold kSplit at q
  split at q
  · rename_i t et
    split at q
    · rename_i hz
      have ey := hy.str et
      subst ey
      exact ⟨s, t, rfl, rfl, hz.1, hz.2, post_lst bh gh q (Reps.ofStrs _)⟩
    · exact q.elim
  · exact q.elim
def D.strs : List D → Option (List Str)
  | [] => some []
  | .s x :: r => (D.strs r).map (x :: ·)
  | _ :: _ => none
theorem D.strs_eq : ∀ {ds : List D} {zs : List Str}, D.strs ds = some zs → ds = zs.map D.s
  | [], _, h => by cases h; rfl
  | .s x :: r, zs, h => by
    unfold D.strs at h
    cases e : D.strs r with
    | none => rw [e] at h; cases h
    | some ys =>
      rw [e] at h
      cases h
      rw [D.strs_eq e]; rfl
  | .n :: _, _, h | .b _ :: _, _, h | .i _ :: _, _, h | .l _ :: _, _, h | .t _ :: _, _, h | .z _ :: _, _, h | .zt _ :: _, _, h | .dk _ _ :: _, _, h | .dt _ _ :: _, _, h | .o _ :: _, _, h => by cases h
theorem D.strs_map (zs : List Str) : D.strs (zs.map D.s) = some zs := by
  induction zs with
  | nil => rfl
  | cons z zs ih => show (D.strs (zs.map D.s)).map _ = _; rw [ih]; rfl
def D.anyL? : D → Option (List D)
  | .l ds => some ds | .z ds => some ds | .t ds => some ds | _ => none
def kJoin (s : Str) (y : Rv) : Re Rv := match y.d.anyL? with
  | some ds => (match D.strs ds with | some ys => if (ys.map (·.length)).sum + ys.length * s.length ≤ 16777216 then .ok (.sh (.s (Txt.join s ys))) else .bad | none => .bad)
  | none => .bad
theorem re_join {apos : Pos} (cy : Cy X c) (ho : PE X o (tE c f)) (he : PE X e (tE c g)) (hs : starEach [e] X.env = [(false, eval e X.env)] := by rfl) (hbase : attributeBase o "join" X.env (eval o X.env) = eval o X.env := by rfl) (hline : (apos.endLine == pos.line) = true := by rfl) :
    PE X (.Call (.Attribute o "join" apos) [e] [] pos) (tE c (eMs kJoin f g)) := by
  refine PE.weak (pe_join ho he hs hbase hline) (tE_M ?_)
  intro σ G H s y ry Q gh bh hy q
  unfold kJoin at q
  split at q
  · rename_i ds ed
    split at q
    · rename_i ys ey
      split at q
      · rename_i hz
        have := D.strs_eq ey
        subst this
        have hp : ∃ p, y = .ref p ∧ (SqL X.K H p (ys.map V.str) ∨ SqT X.K H p (ys.map V.str)) := by
          rw [cy.K]
          unfold D.anyL? at ed
          split at ed
          · rename_i ds' e1
            cases ed
            obtain ⟨p, xs, e, h1, h2⟩ := hy.sql gh (show ry.d.seq? = some _ by rw [e1]; rfl)
            rw [h2.strs] at h1
            exact ⟨p, e, .inl h1⟩
          · rename_i ds' e1
            cases ed
            obtain ⟨p, xs, e, h1, h2⟩ := hy.sql gh (show ry.d.seq? = some _ by rw [e1]; rfl)
            rw [h2.strs] at h1
            exact ⟨p, e, .inl h1⟩
          · rename_i ds' e1
            cases ed
            obtain ⟨p, xs, e, h1, h2⟩ := hy.tup e1
            rw [h2.strs] at h1
            exact ⟨p, e, .inr (SqT.of (gh _ _ h1))⟩
          · cases ed
        obtain ⟨p, rfl, hp⟩ := hp
        exact ⟨s, p, ys, rfl, rfl, hp, hz, post_sh gh q (.s _)⟩
      · exact q.elim
    · exact q.elim
  · exact q.elim
def kIntS : Rv → Re Rv := fun x => match x.d with
  | .s t => (match PySem.intText? t with | some n => if t.length ≤ 640 then oki n else .bad | none => .bad)
  | _ => .bad
theorem re_intS {p : Pos} (hg : Gl X "int") (hm : X.mg "int" = none) (ha : PE X a (tE c f)) (hs : starEach [a] X.env = [(false, eval a X.env)] := by rfl) : PE X (.Call (.Name "int" p) [a] [] pos) (tE c (e1 kIntS f)) := by
  refine re_t1 (hs := hs) call_int_str ?_ hg hm (by decide +kernel) ha
  intro σ G H x rx Q gh bh hx q
  unfold kIntS at q
  split at q
  · rename_i t e
    split at q
    · rename_i n en
      split at q
      · rename_i hl
        exact ⟨t, n, by rw [hx.str e], en, hl, post_sh gh q (.i _)⟩
      · exact q.elim
    · exact q.elim
  · exact q.elim
def kStr2 : Rv → Re Rv := fun x => match x.d with
  | .i p => if p.natAbs.log2 < 1920 then .ok (.sh (.s (toString p))) else .bad
  | .s t => .ok (.sh (.s t))
  | _ => .bad
theorem re_str2 {p : Pos} (hg : Gl X "str") (hm : X.mg "str" = none) (ha : PE X a (tE c f)) (hs : starEach [a] X.env = [(false, eval a X.env)] := by rfl) : PE X (.Call (.Name "str" p) [a] [] pos) (tE c (e1 kStr2 f)) := by
  refine re_t1 (hs := hs) (callR_or2 call_str_int SkE.call_str_str) ?_ hg hm (by decide +kernel) ha
  intro σ G H x rx Q gh bh hx q
  unfold kStr2 at q
  split at q
  · rename_i i e
    split at q
    · rename_i small
      exact .inl ⟨i, by rw [hx.int e], small, post_sh gh q (.s _)⟩
    · exact q.elim
  · rename_i t e
    exact .inr ⟨t, by rw [hx.str e], by rw [← hx.str e]; exact post_sh gh q (by rw [hx.str e]; exact .s _)⟩
  · exact q.elim
def kInS (x y : Rv) : Re Rv := match x.d, y.d with
  | .s a, .s z => (match a.cps.toList with | [ch] => okb (decide (ch ∈ z.cps.toList)) | _ => .bad)
  | _, _ => .bad
theorem sign_of {a : Str} {ch : Nat} (h : a.cps.toList = [ch]) : a = ⟨#[ch]⟩ := by
  cases a with
  | mk cps =>
    congr 1
    apply Array.ext'
    exact h
theorem cd_inS : CmpD X c .In kInS := ⟨_, op_in_sign, by
  intro σ G H x y rx ry Q gh bh hx hy q
  unfold kInS at q
  split at q
  · rename_i a z ea ez
    split at q
    · rename_i ch ec
      have := sign_of ec
      subst this
      exact ⟨ch, z, hx.str ea, hy.str ez, post_sh gh q (.b _)⟩
    · exact q.elim
  · exact q.elim⟩
end
section
variable {m : Nat} {L : Lk} {k k1 k2 : Kd} {α β τ : Type} {e : τ → D} {ea : α → D} {eb : β → D} {f g : FE}
theorem er_M {kk : Str → Rv → Re Rv} {x : Re Str} {y : Re β} {t : Str → β → Re τ} (hx : ER m L k1 eS x f) (hy : ER m L k2 eb y g) (ho : ∀ s b, RE1 k e (t s b) (kk s (k2.v (eb b)))) : ER m L k e (x.bind fun s => y.bind fun b => t s b) (eMs kk f g) := fun Γ hΓ => by
  have h1 := hx Γ hΓ
  unfold eMs
  cases x with
  | bad => trivial
  | ex z => have h1 : f Γ = .ex z := h1; rw [h1]; rfl
  | ok a =>
    have h1 : f Γ = .ok (k1.v (eS a)) := h1
    rw [h1, Re.bind_ok, Re.bind_ok, Kd.v_d]
    have h2 := hy Γ hΓ
    cases y with
    | bad => trivial
    | ex z => have h2 : g Γ = .ex z := h2; show RE1 _ _ _ (Re.bind (g Γ) _); rw [h2]; rfl
    | ok b =>
      have h2 : g Γ = .ok (k2.v (eb b)) := h2
      show RE1 _ _ _ (Re.bind (g Γ) _)
      rw [h2]
      exact ho a b
@[irreducible] def splitT (s t : Str) : Re (List Str) := if (t.length == 0) = false ∧ s.length + 2 ≤ sizeLine then .ok (Txt.split s t) else .bad
theorem splitT_ok {s t : Str} (h1 : (t.length == 0) = false) (h2 : s.length + 2 ≤ sizeLine) : splitT s t = .ok (Txt.split s t) := by unfold splitT; exact if_pos ⟨h1, h2⟩
theorem o_split {s t : Str} : RE1 .fr (eL eS) (splitT s t) (kSplit s (k2.v (eS t))) := by
  have : kSplit s (k2.v (eS t)) = if (t.length == 0) = false ∧ s.length + 2 ≤ sizeLine then .ok (.fr (.l ((Txt.split s t).map D.s))) else .bad := by cases k2 <;> rfl
  rw [this]
  unfold splitT
  split
  · rfl
  · trivial
@[irreducible] def joinT (s : Str) (ys : List Str) : Re Str := if (ys.map (·.length)).sum + ys.length * s.length ≤ 16777216 then .ok (Txt.join s ys) else .bad
theorem joinT_ok {s : Str} {ys : List Str} (h : (ys.map (·.length)).sum + ys.length * s.length ≤ 16777216) : joinT s ys = .ok (Txt.join s ys) := by unfold joinT; exact if_pos h
theorem o_join {s : Str} {ys : List Str} : RE1 .sh eS (joinT s ys) (kJoin s (k2.v (eL eS ys))) := by
  have : kJoin s (k2.v (eL eS ys)) = match D.strs (ys.map D.s) with | some ys => if (ys.map (·.length)).sum + ys.length * s.length ≤ 16777216 then .ok (.sh (.s (Txt.join s ys))) else .bad | none => .bad := by cases k2 <;> rfl
  rw [this, D.strs_map]
  unfold joinT
  show RE1 _ _ _ (if _ then _ else _)
  split
  · rfl
  · trivial
@[irreducible] def intT (t : Str) : Re Int := match PySem.intText? t with | some n => if t.length ≤ 640 then .ok n else .bad | none => .bad
theorem intT_ok {t : Str} {n : Int} (h : PySem.intText? t = some n) (hl : t.length ≤ 640) : intT t = .ok n := by unfold intT; rw [h]; exact if_pos hl
theorem o_intS {t : Str} : RE1 .sh eI (intT t) (kIntS (k1.v (eS t))) := by
  have : kIntS (k1.v (eS t)) = match PySem.intText? t with | some n => if t.length ≤ 640 then oki n else .bad | none => .bad := by cases k1 <;> rfl
  rw [this]
  unfold intT
  split
  · split
    · rfl
    · trivial
  · trivial
def ePt : Str ⊕ Int → D
  | .inl s => .s s
  | .inr z => .i z
@[irreducible] def strPT : Str ⊕ Int → Re Str
  | .inl s => .ok s
  | .inr z => if z.natAbs.log2 < 1920 then .ok (toString z) else .bad
theorem strPT_l {s : Str} : strPT (.inl s) = .ok s := by unfold strPT; rfl
theorem strPT_r {z : Int} (h : z.natAbs.log2 < 1920) : strPT (.inr z) = .ok (toString z) := by unfold strPT; exact if_pos h
theorem o_strP {p : Str ⊕ Int} : RE1 .sh eS (strPT p) (kStr2 (k1.v (ePt p))) := by
  unfold strPT
  cases p with
  | inl s =>
    have : kStr2 (k1.v (ePt (.inl s))) = .ok (.sh (.s s)) := by cases k1 <;> rfl
    rw [this]; rfl
  | inr z =>
    have : kStr2 (k1.v (ePt (.inr z))) = if z.natAbs.log2 < 1920 then .ok (.sh (.s (toString z))) else .bad := by cases k1 <;> rfl
    rw [this]
    show RE1 _ _ (if _ then _ else _) _
    split
    · rfl
    · trivial
def partsT (c : Str × List Int) : List (Str ⊕ Int) := .inl c.1 :: c.2.map .inr
theorem ir_cl {x : Re (Str × List Int)} (hx : ER m L .sh eCl x f) : IR m L ePt (x.bind fun a => .ok (partsT a)) (itA f) := fun Γ hΓ => by
  have h1 := hx Γ hΓ
  rw [itA_at]
  cases x with
  | ok a =>
    have h1 : f Γ = .ok _ := h1
    rw [h1, Re.bind_ok, Re.bind_ok]
    show _ = Re.ok ((partsT a).map ePt)
    unfold partsT
    rw [List.map_cons, List.map_map]
    rfl
  | ex z => have h1 : f Γ = .ex z := h1; rw [h1]; rfl
  | bad => trivial
@[irreducible] def inSgT (a z : Str) : Re Bool := match a.cps.toList with | [ch] => .ok (decide (ch ∈ z.cps.toList)) | _ => .bad
theorem inSgT_ok {ch : Nat} {z : Str} : inSgT ⟨#[ch]⟩ z = .ok (decide (ch ∈ z.cps.toList)) := by unfold inSgT; rfl
theorem o_inSg {a z : Str} : RE1 .sh eB (inSgT a z) (kInS (k1.v (eS a)) (k2.v (eS z))) := by
  have : kInS (k1.v (eS a)) (k2.v (eS z)) = match a.cps.toList with | [ch] => okb (decide (ch ∈ z.cps.toList)) | _ => .bad := by cases k1 <;> cases k2 <;> rfl
  rw [this]
  unfold inSgT
  split
  · rfl
  · trivial
theorem o_lenS {s : Str} (h : True := trivial) : RE1 .sh eI (if s.length ≤ 16777216 then .ok (s.length : Int) else .bad) (kLen (k1.v (eS s))) := by
  have : kLen (k1.v (eS s)) = if s.length ≤ 16777216 then oki s.length else .bad := by cases k1 <;> rfl
  rw [this]
  split
  · rfl
  · trivial
@[irreducible] def lenST (s : Str) : Re Int := if s.length ≤ 16777216 then .ok (s.length : Int) else .bad
theorem lenST_ok {s : Str} (h : s.length ≤ 16777216) : lenST s = .ok (s.length : Int) := by unfold lenST; exact if_pos h
theorem o_lenSt {s : Str} : RE1 .sh eI (lenST s) (kLen (k1.v (eS s))) := by unfold lenST; exact o_lenS
@[irreducible] def cutST (s : Str) (lo hi : Option Int) : Re Str := if s.length ≤ 16777216 then .ok (cutS s lo hi) else .bad
theorem cutST_ok {s : Str} {lo hi : Option Int} (h : s.length ≤ 16777216) : cutST s lo hi = .ok (cutS s lo hi) := by unfold cutST; exact if_pos h
theorem o_slS {s : Str} {lo hi : Option Int} : RE1 .sh eS (cutST s lo hi) (kSl (k1.v (eS s)) lo hi) := by
  have : kSl (k1.v (eS s)) lo hi = if s.length ≤ 16777216 then .ok (.sh (.s (cutS s lo hi))) else .bad := by cases k1 <;> rfl
  rw [this]
  unfold cutST
  split
  · rfl
  · trivial
end
end Ly
end

section
set_option maxRecDepth 100000
set_option maxHeartbeats 2000000
namespace Ly
open PySem PySem.Spec L2
open PyProof.Rows hiding St
section
variable {X : Cx} {d : Addr} {es : Array DictEntry} {n : Nat} {o e f : Expr} {apos cpos : Pos} {ty tx : TE}
def tKGet2 (K : PySem.W.Frag) (d : Addr) (ty tx : TE) : TE := fun σ H Q => ty σ H fun y H1 => tx σ H1 fun z H2 => ∃ (k : Str) (r : Option Value), y = .str k ∧ PySem.W.nsIn K d k = some r ∧ match r with
  | some u => ∃ v, RelV v u ∧ Q v H2
  | none => Q z H2
theorem pe_kget2 (D : KDict X.K X.w d es n) (ho : PE X o (tC (.ref d))) (he : PE X e ty) (hf : PE X f tx) (m : M2 X o "get" apos e f cpos) : PE X (.Call (.Attribute o "get" apos) [e, f] [] cpos) (tKGet2 X.K d ty tx) := by
  refine ⟨fun pins s σ H Q I h => ?_⟩
  refine wpAny_Call_method m.base m.few m.line PySem.F.plainAttrs_dict PySem.F.slot_dict_get PySem.F.type_dict_get (thn (ho.run pins s σ H (fun x H1 => x = .ref d ∧ tKGet2 X.K d ty tx σ H1 Q) I ⟨rfl, h⟩) fun u s1 ⟨x, H1, I1, rx, ex, q1⟩ => ?_)
  subst ex
  obtain rfl : u = Value.ref d := rx
  refine ⟨kd_type D I1, fun b q => ?_, ?_⟩
  · cases q
    exact ⟨_, I1.kIn _ _ D.at_, rfl⟩
  rw [m.trees]
  refine Calls.callWith_builtin rfl (Calls.evalArgs_plain (Calls.spliced_cons (thn (he.run pins s1 σ H1 _ I1 q1) fun iv s2 ⟨y, H2, I2, ry, q2⟩ =>
    Calls.spliced_cons (thn (hf.run pins s2 σ H2 _ I2 q2) fun fv s3 ⟨z, H3, I3, rz, k, r, ey, ek, q3⟩ => Calls.spliced_nil ?_))))
  subst ey
  obtain ⟨t, rfl⟩ := ry
  refine call_meetsIn PySem.F.slot_dict_get (kd_type D I3) PySem.F.entry_dict_get (PySem.F.args_dict_get_3 _ _ _) (meets_dict_get_default (PySem.strKind X.prog X.w) d (PySem.strKind_is X.prog X.w k t) D.low fv) ⟨_, PySem.W.mapOf_K (prog := X.prog) (w := X.w) I3.kIn D.at_ D.lit, ?_⟩
  rw [PySem.W.find_K D.at_ ek]
  cases r with
  | some u => obtain ⟨v, rv, q⟩ := q3; exact ⟨v, H3, I3.tok _, rv, q⟩
  | none => exact ⟨z, H3, I3.tok _, rz, q3⟩
end
section
variable [Tb] {X : Cx} {c : LC} {a b : Expr} {f g : FE} {p : Pos} {x : Str} {tbl : List (Str × Int)}
def kGet2W (tbl : List (Str × Int)) (x y : Rv) : Re Rv := match x.d with
  | .s z => (match tlook tbl z with | some i => oki i | none => (match y with | .sh d => .ok (.sh d) | _ => .bad))
  | _ => .bad
theorem re_get2W {apos cpos : Pos} (T : WDk X.w X.K X.mg x tbl) (hg : Gl X x) (ha : PE X a (tE c f)) (hb : PE X b (tE c g)) (m : M2 X (.Name x p) "get" apos a b cpos := by exact ⟨rfl, rfl, rfl, rfl⟩) (hd : (x == ("__debug__" : Str)) = false := by decide) :
    PE X (.Call (.Attribute (.Name x p) "get" apos) [a, b] [] cpos) (tE c (e2 (kGet2W tbl) f g)) := by
  obtain ⟨A, es, n, hm, D, hz⟩ := T.ex
  refine PE.weak (pe_kget2 D (pe_glob hg hm (v := .ref A) rfl hd) ha hb m) ?_
  rintro σ H Q ⟨G, Γ, he, q⟩
  refine eE he q fun rx v G1 H1 eq1 g1 v1 fr1 he1 q1 => ?_
  refine eE he1 q1 fun ry u G2 H2 eq2 g2 v2 fr2 he2 q2 => ?_
  unfold kGet2W at q2
  split at q2
  · rename_i z ez
    obtain ⟨r, h1, h2⟩ := hz z
    refine ⟨z, r, v1.str ez, h1, ?_⟩
    split at q2
    · rename_i i ei
      rw [ei] at h2
      obtain ⟨t, rfl⟩ := h2
      exact ⟨.int i, ⟨t, rfl⟩, post_sh he2.gh q2 (.i _)⟩
    · rename_i ei
      rw [ei] at h2
      subst h2
      cases ry with
      | sh d => exact post_sh he2.gh q2 v2
      | fr d => exact q2.elim
      | bo d => exact q2.elim
  · exact q2.elim
end
section
variable {m : Nat} {L : Lk} {k k1 k2 : Kd} {f g : FE} {tbl : List (Str × Int)}
def getW2T (tbl : List (Str × Int)) (z : Str) (d : Int) : Int := (tlook tbl z).getD d
theorem o_getW2 {z : Str} {d : Int} : RE1 .sh eI (.ok (getW2T tbl z d)) (kGet2W tbl (k1.v (eS z)) (Kd.sh.v (eI d))) := by
  have : kGet2W tbl (k1.v (eS z)) (Kd.sh.v (eI d)) = match tlook tbl z with | some i => oki i | none => .ok (.sh (.i d)) := by cases k1 <;> rfl
  rw [this]
  unfold getW2T
  cases tlook tbl z <;> rfl
end
end Ly
end

section
set_option maxRecDepth 100000
set_option maxHeartbeats 4000000
namespace C
open PySem PySem.Spec L2 Ly
open PyProof.Rows hiding St
def w_SIZES : List (Str × Int) := [("ring", 4), ("chain", 4), ("cross", 2), ("pass", 3), ("corner", 3), ("cast", 3), ("lead", 3), ("stand", 2)]
def L1_figure_text : FS :=
(sApp 1 (eMs kJoin (eC (.s "+")) (eLc (itA (eV 2)) (.one 4) tYesF (eMs kJoin (eC (.s ":")) (eLc (itA (eV 4)) (.one 3) tYesF (e1 kStr2 (eV 3)) [3])) [4])))
def b_figure_text : FS :=
(sSeq (sIf (tV (e2 kEq (e1 kLen (eV 0)) (eC (.i 0))))
(sRet (eC (.s "-")))
sNil)
(sSeq (sSet 1 (eLst aNil))
(sSeq (sFor (itA (eV 0)) (.one 2) L1_figure_text)
(sRet (eMs kJoin (eC (.s "/")) (eV 1))))))
def F_figure_text : List D → Re Rv := runF 1 5 b_figure_text

def b_number_in : FS :=
(sSeq (sSet 1 (eIf (tV (e2 kEq (eSl (eV 0) oNo (oIs (eC (.i 1)))) (eC (.s "-")))) (eSl (eV 0) (oIs (eC (.i 1))) oNo) (eV 0)))
(sFrz 1 (sSeq (sIf (tOrF (tNotF (tV (eCh kLe kLe (eC (.i 1)) (e1 kLen (eV 1)) (eC (.i 60))))) (tNotF (tV (e1 kAll (eLc (itA (eV 1)) (.one 2) tYesF (e2 kInS (eV 2) (eC (.s "0123456789"))) [2])))))
sBad
sNil)
(sSeq (sIf (tAndF (tV (e2 kEq (e2 kIx (eV 1) (eC (.i 0))) (eC (.s "0")))) (tV (e2 kNe (eV 0) (eC (.s "0")))))
sBad
sNil)
(sRet (e1 kIntS (eV 0)))))))
def F_number_in : List D → Re Rv := runF 1 3 b_number_in

def b_call_in : FS :=
(sSeq (sSet 1 (eMs kSplit (eV 0) (eC (.s ":"))))
(sSeq (sIf (tV (e2 kNe (e2 (kGet2W w_SIZES) (e2 kIx (eV 1) (eC (.i 0))) (eC (.i 0))) (e1 kLen (eV 1))))
sBad
sNil)
(sRet (e2 kAdd (eTup (aCons (e2 kIx (eV 1) (eC (.i 0))) aNil)) (e1 kTuple (eLc (itA (eSl (eV 1) (oIs (eC (.i 1))) oNo)) (.one 2) tYesF (eCall 1 F_number_in (aCons (eV 2) aNil)) [2]))))))
def F_call_in : List D → Re Rv := runF 1 3 b_call_in

def L1_read_figure : FS :=
(sApp 1 (eLc (itA (eMs kSplit (eV 2) (eC (.s "+")))) (.one 3) tYesF (eCall 1 F_call_in (aCons (eV 3) aNil)) [3]))
def b_read_figure : FS :=
(sSeq (sIf (tV (e2 kEq (eV 0) (eC (.s "-"))))
(sRet (eLst aNil))
sNil)
(sSeq (sSet 1 (eLst aNil))
(sSeq (sFor (itA (eMs kSplit (eV 0) (eC (.s "/")))) (.one 2) L1_read_figure)
(sRet (eV 1)))))
def F_read_figure : List D → Re Rv := runF 1 4 b_read_figure

def L1__law_numbers : FS :=
(sIf (tV (e2 kGt (eV 5) (eC (.i 0))))
(sSeq (sApp 2 (e2 kMod (eV 5) (eC (.i 1013))))
(sSet 5 (e2 kDiv (eV 5) (eC (.i 1013)))))
sNil)
def L2__law_numbers : FS :=
(sSeq (sSet 3 (e2 kMod (e2 kAdd (e2 kAdd (e2 kMul (eV 3) (eC (.i 40692))) (e2 kMod (eV 4) (eC (.i 999961)))) (eC (.i 31))) (eC (.i 2147483399))))
(sSeq (sSet 5 (e2 kSub (eV 4) (e2 kPow (eC (.i 10)) (eC (.i 18)))))
(sSeq (sIf (tV (e2 kLt (eV 5) (eC (.i 0))))
(sApp 2 (e2 kMod (eV 4) (eC (.i 9967))))
sNil)
(sFor (itR1 (eC (.i 60))) (.one 6) L1__law_numbers))))
def L3__law_numbers : FS :=
(sSeq (sSet 3 (e2 kMod (e2 kAdd (e2 kAdd (e2 kAdd (e2 kMul (eV 3) (eV 3)) (e2 kMul (eC (.i 48271)) (eV 3))) (e2 kMul (eC (.i 17)) (e1 kLen (eV 2)))) (eC (.i 5))) (eC (.i 2147483629))))
(sApp 2 (e2 kMod (e2 kDiv (eV 3) (eC (.i 1019))) (eC (.i 9967)))))
def T3__law_numbers : FT :=
(tV (e2 kLt (e1 kLen (eV 2)) (eV 1)))
def b__law_numbers : FS :=
(sSeq (sSet 2 (eLst aNil))
(sSeq (sSet 3 (eC (.i 71)))
(sSeq (sFor (itA (eSl (eV 0) oNo (oIs (eC (.i 63))))) (.one 4) L2__law_numbers)
(sSeq (sWh 1000 T3__law_numbers L3__law_numbers)
(sRet (eSl (eV 2) oNo (oIs (eV 1))))))))
def F__law_numbers : List D → Re Rv := runF 2 7 b__law_numbers

def b__law_same (Fself : List D → Re Rv) : FS :=
(sSeq (sIf (tV (e2 (kIs false) (eV 1) (eC .n)))
(sRet (e2 (kIs false) (eV 0) (eC .n)))
sNil)
(sSeq (sIf (tV (e1 (kIsi2 "list" "tuple") (eV 1)))
(sSeq (sIf (tOrF (tV (e2 kNe (e1 (kIsi "list") (eV 0)) (e1 (kIsi "list") (eV 1)))) (tV (e2 kNe (e1 (kIsi "tuple") (eV 0)) (e1 (kIsi "tuple") (eV 1)))))
(sRet (eC (.b false)))
sNil)
(sRet (eAnd (e2 kEq (e1 kLen (eV 0)) (e1 kLen (eV 1))) (e1 kAll (eLc (itR1 (e1 kLen (eV 1))) (.one 2) tYesF (eCall 2 Fself (aCons (e2 kIx (eV 0) (eV 2)) (aCons (e2 kIx (eV 1) (eV 2)) aNil))) [2])))))
sNil)
(sSeq (sIf (tOrF (tV (e2 kNe (e1 (kIsi "bool") (eV 0)) (e1 (kIsi "bool") (eV 1)))) (tV (e2 kNe (e1 (kIsi "str") (eV 0)) (e1 (kIsi "str") (eV 1)))))
(sRet (eC (.b false)))
sNil)
(sRet (eAnd (e2 kEq (e1 (kIsi "int") (eV 0)) (e1 (kIsi "int") (eV 1))) (e2 kEq (eV 0) (eV 1)))))))
def G__law_same : Nat → List D → Re Rv
  | 0 => fun _ => .bad
  | k + 1 => runF 2 3 (b__law_same (G__law_same k))
def F__law_same : List D → Re Rv := G__law_same 12

def L1__law_ten : FS :=
(sSet 1 (e2 kMul (eV 1) (eC (.i 10))))
def b__law_ten : FS :=
(sSeq (sSet 1 (eC (.i 1)))
(sSeq (sFor (itR1 (eV 0)) (.one 2) L1__law_ten)
(sRet (eV 1))))
def F__law_ten : List D → Re Rv := runF 1 3 b__law_ten

def b__law_copied : FS :=
(sRet (eLc (itA (eV 0)) (.one 1) tYesF (e1 kList (eV 1)) [1]))
def F__law_copied : List D → Re Rv := runF 1 2 b__law_copied

def b__law_kept : FS :=
(sRet (e1 kTuple (eLc (itA (eV 0)) (.one 1) tYesF (e1 kTuple (eV 1)) [1])))
def F__law_kept : List D → Re Rv := runF 1 2 b__law_kept

def b__law_call_text : FS :=
(sRet (eMs kJoin (eC (.s ":")) (eLc (itA (eV 0)) (.one 1) tYesF (e1 kStr2 (eV 1)) [1])))
def F__law_call_text : List D → Re Rv := runF 1 2 b__law_call_text

def b__law_figure_text : FS :=
(sSeq (sIf (tV (e2 kEq (e1 kLen (eV 0)) (eC (.i 0))))
(sRet (eC (.s "-")))
sNil)
(sRet (eMs kJoin (eC (.s "/")) (eLc (itA (eV 0)) (.one 2) tYesF (eMs kJoin (eC (.s "+")) (eLc (itA (eV 2)) (.one 1) tYesF (eCall 1 F__law_call_text (aCons (eV 1) aNil)) [1])) [2]))))
def F__law_figure_text : List D → Re Rv := runF 1 3 b__law_figure_text

def b__law_any_number : FS :=
(sSeq (sIf (tV (e2 kEq (e2 kMod (e2 kIx (eV 0) (eC (.i 2))) (eC (.i 29))) (eC (.i 28))))
(sRet (e2 kMul (e2 kSub (e2 kMod (e2 kIx (eV 0) (eC (.i 0))) (eC (.i 3))) (eC (.i 1))) (e2 kAdd (eCall 1 F__law_ten (aCons (eC (.i 59)) aNil)) (e2 kIx (eV 0) (eC (.i 1))))))
sNil)
(sRet (e2 kMul (e2 kSub (e2 kMod (e2 kIx (eV 0) (eC (.i 0))) (eC (.i 3))) (eC (.i 1))) (e2 kAdd (e2 kMul (e2 kIx (eV 0) (eC (.i 1))) (eCall 1 F__law_ten (aCons (e2 kMod (e2 kIx (eV 0) (eC (.i 2))) (eC (.i 56))) aNil))) (e2 kMod (e2 kIx (eV 0) (eC (.i 0))) (eC (.i 10)))))))
def F__law_any_number : List D → Re Rv := runF 1 1 b__law_any_number

def b__law_any_call : FS :=
(sSeq (sSet 1 (e2 kIx (eLst (aCons (eC (.s "ring")) (aCons (eC (.s "chain")) (aCons (eC (.s "cross")) (aCons (eC (.s "pass")) (aCons (eC (.s "corner")) (aCons (eC (.s "cast")) (aCons (eC (.s "lead")) (aCons (eC (.s "stand")) aNil))))))))) (e2 kMod (e2 kIx (eV 0) (eC (.i 0))) (eC (.i 8)))))
(sSeq (sSet 2 (e2 kIx (eLst (aCons (eC (.i 3)) (aCons (eC (.i 3)) (aCons (eC (.i 1)) (aCons (eC (.i 2)) (aCons (eC (.i 2)) (aCons (eC (.i 2)) (aCons (eC (.i 2)) (aCons (eC (.i 1)) aNil))))))))) (e2 kMod (e2 kIx (eV 0) (eC (.i 0))) (eC (.i 8)))))
(sFrz 1 (sRet (e2 kAdd (eTup (aCons (eV 1) aNil)) (e1 kTuple (eLc (itR1 (eV 2)) (.one 3) tYesF (eCall 1 F__law_any_number (aCons (eSl (eV 0) (oIs (e2 kAdd (eC (.i 1)) (e2 kMul (eC (.i 3)) (eV 3)))) oNo) aNil)) [3])))))))
def F__law_any_call : List D → Re Rv := runF 1 4 b__law_any_call

def L1__law_any_figure : FS :=
(sApp 1 (eLc (itR1 (e2 kAdd (eC (.i 1)) (e2 kMod (e2 kDiv (e2 kIx (eV 0) (eC (.i 1))) (e2 kAdd (eC (.i 3)) (eV 2))) (eC (.i 3))))) (.one 3) tYesF (eCall 1 F__law_any_call (aCons (eSl (eV 0) (oIs (e2 kAdd (e2 kAdd (eC (.i 2)) (e2 kMul (eC (.i 30)) (eV 2))) (e2 kMul (eC (.i 10)) (eV 3)))) oNo) aNil)) [3]))
def b__law_any_figure : FS :=
(sSeq (sSet 1 (eLst aNil))
(sSeq (sFor (itR1 (e2 kMod (e2 kIx (eV 0) (eC (.i 0))) (eC (.i 4)))) (.one 2) L1__law_any_figure)
(sRet (eV 1))))
def F__law_any_figure : List D → Re Rv := runF 1 4 b__law_any_figure

def L1_law : FS :=
(sSeq (sSet 3 (eCall 1 F__law_any_figure (aCons (eSl (eV 1) (oIs (e2 kMul (eC (.i 100)) (eV 2))) (oIs (e2 kAdd (e2 kMul (eC (.i 100)) (eV 2)) (eC (.i 100))))) aNil)))
(sFrz 3 (sSeq (sSet 4 (eCall 1 F__law_copied (aCons (eV 3) aNil)))
(sFrz 3 (sSeq (sSet 5 (eCall 1 F__law_figure_text (aCons (eV 3) aNil)))
(sFrz 3 (sFrz 4 (sFrz 5 (sSeq (sIf (tOrF (tNotF (tV (eCall 2 F__law_same (aCons (eLst (aCons (eCall 1 F_figure_text (aCons (eV 4) aNil)) (aCons (eCall 1 F_figure_text (aCons (eCall 1 F__law_kept (aCons (eV 3) aNil)) aNil)) aNil))) (aCons (eLst (aCons (eV 5) (aCons (eV 5) aNil))) aNil))))) (tV (e2 kNe (eV 4) (eV 3))))
(sRet (eC (.b false)))
sNil)
(sFrz 5 (sSeq (sSet 6 (eCall 1 F_read_figure (aCons (eV 5) aNil)))
(sFrz 3 (sFrz 6 (sIf (tNotF (tV (eCall 2 F__law_same (aCons (eV 6) (aCons (eV 3) aNil)))))
(sRet (eC (.b false)))
sNil))))))))))))))
def b_law : FS :=
(sSeq (sSet 1 (eCall 2 F__law_numbers (aCons (eV 0) (aCons (eC (.i 600)) aNil))))
(sSeq (sFor (itR1 (eC (.i 6))) (.one 2) L1_law)
(sRet (eAnd (eCall 2 F__law_same (aCons (eCall 1 F_figure_text (aCons (eLst aNil) aNil)) (aCons (eC (.s "-")) aNil))) (eCall 2 F__law_same (aCons (eCall 1 F_read_figure (aCons (eC (.s "-")) aNil)) (aCons (eLst aNil) aNil)))))))
def F_law : List D → Re Rv := runF 1 7 b_law

def top (i : Nat) : Stmt := PySem.Challenge.pw_longways_k45_figures_written.main.body.getD i (.Pass ⟨0, 0, 0, 0⟩)
structure Tx (w : World) (K : PySem.W.Frag) (mg : Str → Option Value) : Prop where
  b_all : mg "all" = none
  b_bool : mg "bool" = none
  b_int : mg "int" = none
  b_isinstance : mg "isinstance" = none
  b_len : mg "len" = none
  b_list : mg "list" = none
  b_range : mg "range" = none
  b_str : mg "str" = none
  b_tuple : mg "tuple" = none
  c_FIGURES : ∃ t, mg "FIGURES" = some (.str "0123456789" t)
  c_MOST_FIGURES : ∃ t, mg "MOST_FIGURES" = some (.int 60 t)
  w_SIZES : WDk w K mg "SIZES" w_SIZES
  f_figure_text : ∃ (f : Addr) (fd : FuncData), mg "figure_text" = some (.ref f) ∧ Fun K "figure_text" "figure_text" (top 7) f fd ∧ Binds K fd ["figure"] []
  f_number_in : ∃ (f : Addr) (fd : FuncData), mg "number_in" = some (.ref f) ∧ Fun K "number_in" "number_in" (top 8) f fd ∧ Binds K fd ["word"] []
  f_call_in : ∃ (f : Addr) (fd : FuncData), mg "call_in" = some (.ref f) ∧ Fun K "call_in" "call_in" (top 9) f fd ∧ Binds K fd ["word"] []
  f_read_figure : ∃ (f : Addr) (fd : FuncData), mg "read_figure" = some (.ref f) ∧ Fun K "read_figure" "read_figure" (top 10) f fd ∧ Binds K fd ["text"] []
  f__law_numbers : ∃ (f : Addr) (fd : FuncData), mg "_law_numbers" = some (.ref f) ∧ Fun K "_law_numbers" "_law_numbers" (top 12) f fd ∧ Binds K fd ["_law_script", "_law_many"] []
  f__law_same : ∃ (f : Addr) (fd : FuncData), mg "_law_same" = some (.ref f) ∧ Fun K "_law_same" "_law_same" (top 13) f fd ∧ Binds K fd ["_law_found", "_law_due"] []
  f__law_ten : ∃ (f : Addr) (fd : FuncData), mg "_law_ten" = some (.ref f) ∧ Fun K "_law_ten" "_law_ten" (top 14) f fd ∧ Binds K fd ["_law_number"] []
  f__law_copied : ∃ (f : Addr) (fd : FuncData), mg "_law_copied" = some (.ref f) ∧ Fun K "_law_copied" "_law_copied" (top 15) f fd ∧ Binds K fd ["_law_figure"] []
  f__law_kept : ∃ (f : Addr) (fd : FuncData), mg "_law_kept" = some (.ref f) ∧ Fun K "_law_kept" "_law_kept" (top 16) f fd ∧ Binds K fd ["_law_figure"] []
  f__law_call_text : ∃ (f : Addr) (fd : FuncData), mg "_law_call_text" = some (.ref f) ∧ Fun K "_law_call_text" "_law_call_text" (top 17) f fd ∧ Binds K fd ["_law_call"] []
  f__law_figure_text : ∃ (f : Addr) (fd : FuncData), mg "_law_figure_text" = some (.ref f) ∧ Fun K "_law_figure_text" "_law_figure_text" (top 18) f fd ∧ Binds K fd ["_law_figure"] []
  f__law_any_number : ∃ (f : Addr) (fd : FuncData), mg "_law_any_number" = some (.ref f) ∧ Fun K "_law_any_number" "_law_any_number" (top 19) f fd ∧ Binds K fd ["_law_d"] []
  f__law_any_call : ∃ (f : Addr) (fd : FuncData), mg "_law_any_call" = some (.ref f) ∧ Fun K "_law_any_call" "_law_any_call" (top 20) f fd ∧ Binds K fd ["_law_d"] []
  f__law_any_figure : ∃ (f : Addr) (fd : FuncData), mg "_law_any_figure" = some (.ref f) ∧ Fun K "_law_any_figure" "_law_any_figure" (top 21) f fd ∧ Binds K fd ["_law_d"] []
section
variable {P : Program} {w : World} {K : PySem.W.Frag} {mg : Str → Option Value} {base : Heap}
abbrev s_figure_text : Stmt := top 7
abbrev N_figure_text : List Str := ["figure", "bars", "bar", "part", "call"]
theorem sc_figure_text : FnScope N_figure_text ["figure"] (defScope s_figure_text) := ⟨rfl, rfl, rfl, by decide +kernel, rfl, by decide +kernel, by decide +kernel⟩
theorem fn_figure_text {f : Addr} {fd : FuncData} (T : Tx w K mg) (hF : Fun K "figure_text" "figure_text" s_figure_text f fd) : FnOk P w K mg base (L2N.CX P w) 1 f fd ["figure"] (spF K mg 1 F_figure_text) :=
  def_fn (k := 0) hF sc_figure_text rfl rfl (fun cdv A outer s H G E hr cy pass =>
(rs_cons (rs_if (rt_cmp (cd_eq cy) (re_len cy rfl T.b_len (nv 0)) re_int (nomark _))
(rs_one (rs_ret re_s))
rs_nil)
(rs_cons (rs_set (i := 1) cy rfl (Or.inl rfl) (re_lst ra_nil))
(rs_cons (rs_for pass cy (ri_any cy (nv 0)) (rg1 cy 2)
(rs_one (rs_app (i := 1) rfl (Or.inl rfl) (re_join cy re_s (re_lc cy (ri_any cy (nv 2)) (blkOk_by (N := N_figure_text) (sc := defScope s_figure_text) (own := [("call", 4)]) (by decide +kernel)) (by decide) (fun _ _ _ _ _ cy1 => (rg1 cy1 4)) (fun _ _ _ _ _ cy1 => rts_nil) (fun _ _ _ _ _ cy1 => (re_join cy1 re_s (re_lc (scope := ⟨.function, [(Str.ofString ".0", NameKind.local), (Str.ofString "part", NameKind.local), (Str.ofString "str", NameKind.globalImplicit)], false, false, []⟩) (own := [("part", 3)]) cy1 (ri_any cy1 (nv 4)) (by change BlkOk N_figure_text ⟨.function, [(Str.ofString ".0", NameKind.local), (Str.ofString "call", NameKind.local)], false, false, []⟩ _ _; exact blkOk_by (own := [("part", 3)]) (by decide +kernel)) (by decide) (fun _ _ _ _ _ cy2 => (rg1 cy2 3)) (fun _ _ _ _ _ cy2 => rts_nil) (fun _ _ _ _ _ cy2 => (re_str2 rfl T.b_str (nv 3)))))))))))
(rs_one (rs_ret (re_join cy re_s (nv 1))))))))
theorem d_figure_text (T : Tx w K mg) : DefOk P w K mg base 1 "figure_text" 1 F_figure_text := by
  obtain ⟨f, fd, h1, h2, h3⟩ := T.f_figure_text
  exact ⟨f, fd, _, h1, h2.kp, h3, fn_figure_text T h2⟩

abbrev s_number_in : Stmt := top 8
abbrev N_number_in : List Str := ["word", "figures", "sign"]
theorem sc_number_in : FnScope N_number_in ["word"] (defScope s_number_in) := ⟨rfl, rfl, rfl, by decide +kernel, rfl, by decide +kernel, by decide +kernel⟩
theorem fn_number_in {f : Addr} {fd : FuncData} (T : Tx w K mg) (hF : Fun K "number_in" "number_in" s_number_in f fd) : FnOk P w K mg base (L2N.CX P w) 1 f fd ["word"] (spF K mg 1 F_number_in) :=
  def_fn (k := 0) hF sc_number_in rfl rfl (fun cdv A outer s H G E hr cy pass =>
(rs_cons (rs_set (i := 1) cy rfl (Or.inl rfl) (re_if (rt_cmp (cd_eq cy) (re_sl cy (nv 0) ro_no (ro_is re_int)) re_s (nomark _)) (re_sl cy (nv 0) (ro_is re_int) ro_no) (nv 0)))
(rs_frz 1 (rs_cons (rs_if (PW.pt (rw_or (rt_not (rt_chain cd_le cd_le re_int (re_len cy rfl T.b_len (nv 1)) (re_gi T.c_MOST_FIGURES))) (rw_or1 (rt_not (rt_val (re_all cy rfl T.b_all (re_lc cy (ri_any cy (nv 1)) (blkOk_by (N := N_number_in) (sc := defScope s_number_in) (own := [("sign", 2)]) (by decide +kernel)) (by decide) (fun _ _ _ _ _ cy1 => (rg1 cy1 2)) (fun _ _ _ _ _ cy1 => rts_nil) (fun _ _ _ _ _ cy1 => (re_cd cd_inS (nv 2) (re_gs T.c_FIGURES) (by rfl))))))))))
(rs_one rs_bad)
rs_nil)
(rs_cons (rs_if (PW.pt (rw_and (rt_cmp (cd_eq cy) (re_ix cy (nv 1) re_int) re_s (nomark _)) (rw_and1 (rt_cmp (cd_ne cy) (nv 0) re_s (nomark _)))))
(rs_one rs_bad)
rs_nil)
(rs_one (rs_ret (re_intS rfl T.b_int (nv 0)))))))))
theorem d_number_in (T : Tx w K mg) : DefOk P w K mg base 1 "number_in" 1 F_number_in := by
  obtain ⟨f, fd, h1, h2, h3⟩ := T.f_number_in
  exact ⟨f, fd, _, h1, h2.kp, h3, fn_number_in T h2⟩

abbrev s_call_in : Stmt := top 9
abbrev N_call_in : List Str := ["word", "parts", "part"]
theorem sc_call_in : FnScope N_call_in ["word"] (defScope s_call_in) := ⟨rfl, rfl, rfl, by decide +kernel, rfl, by decide +kernel, by decide +kernel⟩
theorem fn_call_in {f : Addr} {fd : FuncData} (T : Tx w K mg) (hF : Fun K "call_in" "call_in" s_call_in f fd) : FnOk P w K mg base (L2N.CX P w) 2 f fd ["word"] (spF K mg 1 F_call_in) :=
  def_fn (k := 1) hF sc_call_in rfl rfl (fun cdv A outer s H G E hr cy pass =>
(rs_cons (rs_set (i := 1) cy rfl (Or.inl rfl) (re_split (nv 0) re_s))
(rs_cons (rs_if (rt_cmp (cd_ne cy) (re_get2W T.w_SIZES rfl (re_ix cy (nv 1) re_int) re_int) (re_len cy rfl T.b_len (nv 1)) (nomark _))
(rs_one rs_bad)
rs_nil)
(rs_one (rs_ret (re_add cy (re_tup (ra_cons (re_ix cy (nv 1) re_int) ra_nil)) (re_tuple cy rfl T.b_tuple (re_lc cy (ri_any cy (re_sl cy (nv 1) (ro_is re_int) ro_no)) (blkOk_by (N := N_call_in) (sc := defScope s_call_in) (own := [("part", 2)]) (by decide +kernel)) (by decide) (fun _ _ _ _ _ cy1 => (rg1 cy1 2)) (fun _ _ _ _ _ cy1 => rts_nil) (fun _ _ _ _ _ cy1 => (re_call cy1 (d_number_in T) (hr.mono (by decide)) rfl (ra_cons (nv 2) ra_nil)))))))))))
theorem d_call_in (T : Tx w K mg) : DefOk P w K mg base 2 "call_in" 1 F_call_in := by
  obtain ⟨f, fd, h1, h2, h3⟩ := T.f_call_in
  exact ⟨f, fd, _, h1, h2.kp, h3, fn_call_in T h2⟩

abbrev s_read_figure : Stmt := top 10
abbrev N_read_figure : List Str := ["text", "found", "bar", "word"]
theorem sc_read_figure : FnScope N_read_figure ["text"] (defScope s_read_figure) := ⟨rfl, rfl, rfl, by decide +kernel, rfl, by decide +kernel, by decide +kernel⟩
theorem fn_read_figure {f : Addr} {fd : FuncData} (T : Tx w K mg) (hF : Fun K "read_figure" "read_figure" s_read_figure f fd) : FnOk P w K mg base (L2N.CX P w) 3 f fd ["text"] (spF K mg 1 F_read_figure) :=
  def_fn (k := 2) hF sc_read_figure rfl rfl (fun cdv A outer s H G E hr cy pass =>
(rs_cons (rs_if (rt_cmp (cd_eq cy) (nv 0) re_s (nomark _))
(rs_one (rs_ret (re_lst ra_nil)))
rs_nil)
(rs_cons (rs_set (i := 1) cy rfl (Or.inl rfl) (re_lst ra_nil))
(rs_cons (rs_for pass cy (ri_any cy (re_split (nv 0) re_s)) (rg1 cy 2)
(rs_one (rs_app (i := 1) rfl (Or.inl rfl) (re_lc cy (ri_any cy (re_split (nv 2) re_s)) (blkOk_by (N := N_read_figure) (sc := defScope s_read_figure) (own := [("word", 3)]) (by decide +kernel)) (by decide) (fun _ _ _ _ _ cy1 => (rg1 cy1 3)) (fun _ _ _ _ _ cy1 => rts_nil) (fun _ _ _ _ _ cy1 => (re_call cy1 (d_call_in T) (hr.mono (by decide)) rfl (ra_cons (nv 3) ra_nil)))))))
(rs_one (rs_ret (nv 1)))))))
theorem d_read_figure (T : Tx w K mg) : DefOk P w K mg base 3 "read_figure" 1 F_read_figure := by
  obtain ⟨f, fd, h1, h2, h3⟩ := T.f_read_figure
  exact ⟨f, fd, _, h1, h2.kp, h3, fn_read_figure T h2⟩

abbrev s__law_numbers : Stmt := top 12
abbrev N__law_numbers : List Str := ["_law_script", "_law_many", "_law_row", "_law_seed", "_law_cell", "_law_rest", "_law_k"]
theorem sc__law_numbers : FnScope N__law_numbers ["_law_script", "_law_many"] (defScope s__law_numbers) := ⟨rfl, rfl, rfl, by decide +kernel, rfl, by decide +kernel, by decide +kernel⟩
theorem fn__law_numbers {f : Addr} {fd : FuncData} (T : Tx w K mg) (hF : Fun K "_law_numbers" "_law_numbers" s__law_numbers f fd) : FnOk P w K mg base (L2N.CX P w) 1 f fd ["_law_script", "_law_many"] (spF K mg 2 F__law_numbers) :=
  def_fn (k := 0) hF sc__law_numbers rfl rfl (fun cdv A outer s H G E hr cy pass =>
(rs_cons (rs_set (i := 2) cy rfl (Or.inl rfl) (re_lst ra_nil))
(rs_cons (rs_set (i := 3) cy rfl (Or.inl rfl) re_int)
(rs_cons (rs_for pass cy (ri_any cy (re_sl cy (nv 0) ro_no (ro_is re_int))) (rg1 cy 4)
(rs_cons (rs_set (i := 3) cy rfl (Or.inl rfl) (re_mod (re_add cy (re_add cy (re_mul (nv 3) re_int) (re_mod (nv 4) re_int)) re_int) re_int))
(rs_cons (rs_set (i := 5) cy rfl (Or.inl rfl) (re_sub (nv 4) (re_pow re_int re_int)))
(rs_cons (rs_if (rt_cmp cd_lt (nv 5) re_int (nomark _))
(rs_one (rs_app (i := 2) rfl (Or.inl rfl) (re_mod (nv 4) re_int)))
rs_nil)
(rs_one (rs_for pass cy (ri_range1 rfl T.b_range re_int) (rg1 cy 6)
(rs_one (rs_if (rt_cmp cd_gt (nv 5) re_int (nomark _))
(rs_cons (rs_app (i := 2) rfl (Or.inl rfl) (re_mod (nv 5) re_int))
(rs_one (rs_set (i := 5) cy rfl (Or.inl rfl) (re_div (nv 5) re_int))))
rs_nil))))))))
(rs_cons (rs_while pass 1000 (rt_cmp cd_lt (re_len cy rfl T.b_len (nv 2)) (nv 1) (nomark _))
(rs_cons (rs_set (i := 3) cy rfl (Or.inl rfl) (re_mod (re_add cy (re_add cy (re_add cy (re_mul (nv 3) (nv 3)) (re_mul re_int (nv 3))) (re_mul re_int (re_len cy rfl T.b_len (nv 2)))) re_int) re_int))
(rs_one (rs_app (i := 2) rfl (Or.inl rfl) (re_mod (re_div (nv 3) re_int) re_int)))))
(rs_one (rs_ret (re_sl cy (nv 2) ro_no (ro_is (nv 1))))))))))
theorem d__law_numbers (T : Tx w K mg) : DefOk P w K mg base 1 "_law_numbers" 2 F__law_numbers := by
  obtain ⟨f, fd, h1, h2, h3⟩ := T.f__law_numbers
  exact ⟨f, fd, _, h1, h2.kp, h3, fn__law_numbers T h2⟩

abbrev s__law_same : Stmt := top 13
abbrev N__law_same : List Str := ["_law_found", "_law_due", "_law_k"]
theorem sc__law_same : FnScope N__law_same ["_law_found", "_law_due"] (defScope s__law_same) := ⟨rfl, rfl, rfl, by decide +kernel, rfl, by decide +kernel, by decide +kernel⟩
theorem r__law_same (T : Tx w K mg) : ∀ k : Nat, DefOk P w K mg base (k + 1) "_law_same" 2 (G__law_same k)
  | 0 => by
    obtain ⟨f, fd, h1, h2, h3⟩ := T.f__law_same
    exact ⟨f, fd, ["_law_found", "_law_due"], h1, h2.kp, h3, fn_bad⟩
  | k + 1 => by
    obtain ⟨f, fd, h1, h2, h3⟩ := T.f__law_same
    have hself := r__law_same T k
    exact ⟨f, fd, ["_law_found", "_law_due"], h1, h2.kp, h3, def_fn (k := k + 1) h2 sc__law_same rfl rfl (fun cdv A outer s H G E hr cy pass =>
(rs_cons (rs_if (rt_isN (nv 1))
(rs_one (rs_ret (re_isN (nv 0))))
rs_nil)
(rs_cons (rs_if (rt_val (re_isi2 cy rfl T.b_isinstance rfl T.b_list (by decide +kernel) rfl T.b_tuple (by decide +kernel) (nv 1)))
(rs_cons (rs_if (PW.pt (rw_or (rt_cmp (cd_ne cy) (re_isi cy rfl T.b_isinstance rfl T.b_list (by decide +kernel) (nv 0)) (re_isi cy rfl T.b_isinstance rfl T.b_list (by decide +kernel) (nv 1)) (nomark _)) (rw_or1 (rt_cmp (cd_ne cy) (re_isi cy rfl T.b_isinstance rfl T.b_tuple (by decide +kernel) (nv 0)) (re_isi cy rfl T.b_isinstance rfl T.b_tuple (by decide +kernel) (nv 1)) (nomark _)))))
(rs_one (rs_ret re_bl))
rs_nil)
(rs_one (rs_ret (re_and (re_cd (cd_eq cy) (re_len cy rfl T.b_len (nv 0)) (re_len cy rfl T.b_len (nv 1)) (nomark _)) (re_one (re_all cy rfl T.b_all (re_lc cy (ri_range1 rfl T.b_range (re_len cy rfl T.b_len (nv 1))) (blkOk_by (N := N__law_same) (sc := defScope s__law_same) (own := [("_law_k", 2)]) (by decide +kernel)) (by decide) (fun _ _ _ _ _ cy1 => (rg1 cy1 2)) (fun _ _ _ _ _ cy1 => rts_nil) (fun _ _ _ _ _ cy1 => (re_call cy1 hself (hr.mono (by omega)) rfl (ra_cons (re_ix cy1 (nv 0) (nv 2)) (ra_cons (re_ix cy1 (nv 1) (nv 2)) ra_nil)))))))))))
rs_nil)
(rs_cons (rs_if (PW.pt (rw_or (rt_cmp (cd_ne cy) (re_isi cy rfl T.b_isinstance rfl T.b_bool (by decide +kernel) (nv 0)) (re_isi cy rfl T.b_isinstance rfl T.b_bool (by decide +kernel) (nv 1)) (nomark _)) (rw_or1 (rt_cmp (cd_ne cy) (re_isi cy rfl T.b_isinstance rfl T.b_str (by decide +kernel) (nv 0)) (re_isi cy rfl T.b_isinstance rfl T.b_str (by decide +kernel) (nv 1)) (nomark _)))))
(rs_one (rs_ret re_bl))
rs_nil)
(rs_one (rs_ret (re_and (re_cd (cd_eq cy) (re_isi cy rfl T.b_isinstance rfl T.b_int (by decide +kernel) (nv 0)) (re_isi cy rfl T.b_isinstance rfl T.b_int (by decide +kernel) (nv 1)) (nomark _)) (re_one (re_cd (cd_eq cy) (nv 0) (nv 1) (nomark _))))))))))⟩
theorem d__law_same (T : Tx w K mg) : DefOk P w K mg base 13 "_law_same" 2 F__law_same := r__law_same T 12

abbrev s__law_ten : Stmt := top 14
abbrev N__law_ten : List Str := ["_law_number", "_law_found", "_law_k"]
theorem sc__law_ten : FnScope N__law_ten ["_law_number"] (defScope s__law_ten) := ⟨rfl, rfl, rfl, by decide +kernel, rfl, by decide +kernel, by decide +kernel⟩
theorem fn__law_ten {f : Addr} {fd : FuncData} (T : Tx w K mg) (hF : Fun K "_law_ten" "_law_ten" s__law_ten f fd) : FnOk P w K mg base (L2N.CX P w) 1 f fd ["_law_number"] (spF K mg 1 F__law_ten) :=
  def_fn (k := 0) hF sc__law_ten rfl rfl (fun cdv A outer s H G E hr cy pass =>
(rs_cons (rs_set (i := 1) cy rfl (Or.inl rfl) re_int)
(rs_cons (rs_for pass cy (ri_range1 rfl T.b_range (nv 0)) (rg1 cy 2)
(rs_one (rs_set (i := 1) cy rfl (Or.inl rfl) (re_mul (nv 1) re_int))))
(rs_one (rs_ret (nv 1))))))
theorem d__law_ten (T : Tx w K mg) : DefOk P w K mg base 1 "_law_ten" 1 F__law_ten := by
  obtain ⟨f, fd, h1, h2, h3⟩ := T.f__law_ten
  exact ⟨f, fd, _, h1, h2.kp, h3, fn__law_ten T h2⟩

abbrev s__law_copied : Stmt := top 15
abbrev N__law_copied : List Str := ["_law_figure", "_law_bar"]
theorem sc__law_copied : FnScope N__law_copied ["_law_figure"] (defScope s__law_copied) := ⟨rfl, rfl, rfl, by decide +kernel, rfl, by decide +kernel, by decide +kernel⟩
theorem fn__law_copied {f : Addr} {fd : FuncData} (T : Tx w K mg) (hF : Fun K "_law_copied" "_law_copied" s__law_copied f fd) : FnOk P w K mg base (L2N.CX P w) 1 f fd ["_law_figure"] (spF K mg 1 F__law_copied) :=
  def_fn (k := 0) hF sc__law_copied rfl rfl (fun cdv A outer s H G E hr cy pass =>
(rs_one (rs_ret (re_lc cy (ri_any cy (nv 0)) (blkOk_by (N := N__law_copied) (sc := defScope s__law_copied) (own := [("_law_bar", 1)]) (by decide +kernel)) (by decide) (fun _ _ _ _ _ cy1 => (rg1 cy1 1)) (fun _ _ _ _ _ cy1 => rts_nil) (fun _ _ _ _ _ cy1 => (re_list cy1 rfl T.b_list (nv 1)))))))
theorem d__law_copied (T : Tx w K mg) : DefOk P w K mg base 1 "_law_copied" 1 F__law_copied := by
  obtain ⟨f, fd, h1, h2, h3⟩ := T.f__law_copied
  exact ⟨f, fd, _, h1, h2.kp, h3, fn__law_copied T h2⟩

abbrev s__law_kept : Stmt := top 16
abbrev N__law_kept : List Str := ["_law_figure", "_law_bar"]
theorem sc__law_kept : FnScope N__law_kept ["_law_figure"] (defScope s__law_kept) := ⟨rfl, rfl, rfl, by decide +kernel, rfl, by decide +kernel, by decide +kernel⟩
theorem fn__law_kept {f : Addr} {fd : FuncData} (T : Tx w K mg) (hF : Fun K "_law_kept" "_law_kept" s__law_kept f fd) : FnOk P w K mg base (L2N.CX P w) 1 f fd ["_law_figure"] (spF K mg 1 F__law_kept) :=
  def_fn (k := 0) hF sc__law_kept rfl rfl (fun cdv A outer s H G E hr cy pass =>
(rs_one (rs_ret (re_tuple cy rfl T.b_tuple (re_lc cy (ri_any cy (nv 0)) (blkOk_by (N := N__law_kept) (sc := defScope s__law_kept) (own := [("_law_bar", 1)]) (by decide +kernel)) (by decide) (fun _ _ _ _ _ cy1 => (rg1 cy1 1)) (fun _ _ _ _ _ cy1 => rts_nil) (fun _ _ _ _ _ cy1 => (re_tuple cy1 rfl T.b_tuple (nv 1))))))))
theorem d__law_kept (T : Tx w K mg) : DefOk P w K mg base 1 "_law_kept" 1 F__law_kept := by
  obtain ⟨f, fd, h1, h2, h3⟩ := T.f__law_kept
  exact ⟨f, fd, _, h1, h2.kp, h3, fn__law_kept T h2⟩

abbrev s__law_call_text : Stmt := top 17
abbrev N__law_call_text : List Str := ["_law_call", "_law_part"]
theorem sc__law_call_text : FnScope N__law_call_text ["_law_call"] (defScope s__law_call_text) := ⟨rfl, rfl, rfl, by decide +kernel, rfl, by decide +kernel, by decide +kernel⟩
theorem fn__law_call_text {f : Addr} {fd : FuncData} (T : Tx w K mg) (hF : Fun K "_law_call_text" "_law_call_text" s__law_call_text f fd) : FnOk P w K mg base (L2N.CX P w) 1 f fd ["_law_call"] (spF K mg 1 F__law_call_text) :=
  def_fn (k := 0) hF sc__law_call_text rfl rfl (fun cdv A outer s H G E hr cy pass =>
(rs_one (rs_ret (re_join cy re_s (re_lc cy (ri_any cy (nv 0)) (blkOk_by (N := N__law_call_text) (sc := defScope s__law_call_text) (own := [("_law_part", 1)]) (by decide +kernel)) (by decide) (fun _ _ _ _ _ cy1 => (rg1 cy1 1)) (fun _ _ _ _ _ cy1 => rts_nil) (fun _ _ _ _ _ cy1 => (re_str2 rfl T.b_str (nv 1))))))))
theorem d__law_call_text (T : Tx w K mg) : DefOk P w K mg base 1 "_law_call_text" 1 F__law_call_text := by
  obtain ⟨f, fd, h1, h2, h3⟩ := T.f__law_call_text
  exact ⟨f, fd, _, h1, h2.kp, h3, fn__law_call_text T h2⟩

abbrev s__law_figure_text : Stmt := top 18
abbrev N__law_figure_text : List Str := ["_law_figure", "_law_call", "_law_bar"]
theorem sc__law_figure_text : FnScope N__law_figure_text ["_law_figure"] (defScope s__law_figure_text) := ⟨rfl, rfl, rfl, by decide +kernel, rfl, by decide +kernel, by decide +kernel⟩
theorem fn__law_figure_text {f : Addr} {fd : FuncData} (T : Tx w K mg) (hF : Fun K "_law_figure_text" "_law_figure_text" s__law_figure_text f fd) : FnOk P w K mg base (L2N.CX P w) 2 f fd ["_law_figure"] (spF K mg 1 F__law_figure_text) :=
  def_fn (k := 1) hF sc__law_figure_text rfl rfl (fun cdv A outer s H G E hr cy pass =>
(rs_cons (rs_if (rt_cmp (cd_eq cy) (re_len cy rfl T.b_len (nv 0)) re_int (nomark _))
(rs_one (rs_ret re_s))
rs_nil)
(rs_one (rs_ret (re_join cy re_s (re_lc cy (ri_any cy (nv 0)) (blkOk_by (N := N__law_figure_text) (sc := defScope s__law_figure_text) (own := [("_law_bar", 2)]) (by decide +kernel)) (by decide) (fun _ _ _ _ _ cy1 => (rg1 cy1 2)) (fun _ _ _ _ _ cy1 => rts_nil) (fun _ _ _ _ _ cy1 => (re_join cy1 re_s (re_lc (scope := ⟨.function, [(Str.ofString ".0", NameKind.local), (Str.ofString "_law_call", NameKind.local), (Str.ofString "_law_call_text", NameKind.globalImplicit)], false, false, []⟩) (own := [("_law_call", 1)]) cy1 (ri_any cy1 (nv 2)) (by change BlkOk N__law_figure_text ⟨.function, [(Str.ofString ".0", NameKind.local), (Str.ofString "_law_bar", NameKind.local)], false, false, []⟩ _ _; exact blkOk_by (own := [("_law_call", 1)]) (by decide +kernel)) (by decide) (fun _ _ _ _ _ cy2 => (rg1 cy2 1)) (fun _ _ _ _ _ cy2 => rts_nil) (fun _ _ _ _ _ cy2 => (re_call cy2 (d__law_call_text T) (hr.mono (by decide)) rfl (ra_cons (nv 1) ra_nil))))))))))))
theorem d__law_figure_text (T : Tx w K mg) : DefOk P w K mg base 2 "_law_figure_text" 1 F__law_figure_text := by
  obtain ⟨f, fd, h1, h2, h3⟩ := T.f__law_figure_text
  exact ⟨f, fd, _, h1, h2.kp, h3, fn__law_figure_text T h2⟩

abbrev s__law_any_number : Stmt := top 19
abbrev N__law_any_number : List Str := ["_law_d"]
theorem sc__law_any_number : FnScope N__law_any_number ["_law_d"] (defScope s__law_any_number) := ⟨rfl, rfl, rfl, by decide +kernel, rfl, by decide +kernel, by decide +kernel⟩
theorem fn__law_any_number {f : Addr} {fd : FuncData} (T : Tx w K mg) (hF : Fun K "_law_any_number" "_law_any_number" s__law_any_number f fd) : FnOk P w K mg base (L2N.CX P w) 2 f fd ["_law_d"] (spF K mg 1 F__law_any_number) :=
  def_fn (k := 1) hF sc__law_any_number rfl rfl (fun cdv A outer s H G E hr cy pass =>
(rs_cons (rs_if (rt_cmp (cd_eq cy) (re_mod (re_ix cy (nv 0) re_int) re_int) re_int (nomark _))
(rs_one (rs_ret (re_mul (re_sub (re_mod (re_ix cy (nv 0) re_int) re_int) re_int) (re_add cy (re_call cy (d__law_ten T) (hr.mono (by decide)) rfl (ra_cons re_int ra_nil)) (re_ix cy (nv 0) re_int)))))
rs_nil)
(rs_one (rs_ret (re_mul (re_sub (re_mod (re_ix cy (nv 0) re_int) re_int) re_int) (re_add cy (re_mul (re_ix cy (nv 0) re_int) (re_call cy (d__law_ten T) (hr.mono (by decide)) rfl (ra_cons (re_mod (re_ix cy (nv 0) re_int) re_int) ra_nil))) (re_mod (re_ix cy (nv 0) re_int) re_int)))))))
theorem d__law_any_number (T : Tx w K mg) : DefOk P w K mg base 2 "_law_any_number" 1 F__law_any_number := by
  obtain ⟨f, fd, h1, h2, h3⟩ := T.f__law_any_number
  exact ⟨f, fd, _, h1, h2.kp, h3, fn__law_any_number T h2⟩

abbrev s__law_any_call : Stmt := top 20
abbrev N__law_any_call : List Str := ["_law_d", "_law_word", "_law_many", "_law_k"]
theorem sc__law_any_call : FnScope N__law_any_call ["_law_d"] (defScope s__law_any_call) := ⟨rfl, rfl, rfl, by decide +kernel, rfl, by decide +kernel, by decide +kernel⟩
theorem fn__law_any_call {f : Addr} {fd : FuncData} (T : Tx w K mg) (hF : Fun K "_law_any_call" "_law_any_call" s__law_any_call f fd) : FnOk P w K mg base (L2N.CX P w) 3 f fd ["_law_d"] (spF K mg 1 F__law_any_call) :=
  def_fn (k := 2) hF sc__law_any_call rfl rfl (fun cdv A outer s H G E hr cy pass =>
(rs_cons (rs_set (i := 1) cy rfl (Or.inl rfl) (re_ix cy (re_lst (ra_cons re_s (ra_cons re_s (ra_cons re_s (ra_cons re_s (ra_cons re_s (ra_cons re_s (ra_cons re_s (ra_cons re_s ra_nil))))))))) (re_mod (re_ix cy (nv 0) re_int) re_int)))
(rs_cons (rs_set (i := 2) cy rfl (Or.inl rfl) (re_ix cy (re_lst (ra_cons re_int (ra_cons re_int (ra_cons re_int (ra_cons re_int (ra_cons re_int (ra_cons re_int (ra_cons re_int (ra_cons re_int ra_nil))))))))) (re_mod (re_ix cy (nv 0) re_int) re_int)))
(rs_frz 1 (rs_one (rs_ret (re_add cy (re_tup (ra_cons (nv 1) ra_nil)) (re_tuple cy rfl T.b_tuple (re_lc cy (ri_range1 rfl T.b_range (nv 2)) (blkOk_by (N := N__law_any_call) (sc := defScope s__law_any_call) (own := [("_law_k", 3)]) (by decide +kernel)) (by decide) (fun _ _ _ _ _ cy1 => (rg1 cy1 3)) (fun _ _ _ _ _ cy1 => rts_nil) (fun _ _ _ _ _ cy1 => (re_call cy1 (d__law_any_number T) (hr.mono (by decide)) rfl (ra_cons (re_sl cy1 (nv 0) (ro_is (re_add cy1 re_int (re_mul re_int (nv 3)))) ro_no) ra_nil))))))))))))
theorem d__law_any_call (T : Tx w K mg) : DefOk P w K mg base 3 "_law_any_call" 1 F__law_any_call := by
  obtain ⟨f, fd, h1, h2, h3⟩ := T.f__law_any_call
  exact ⟨f, fd, _, h1, h2.kp, h3, fn__law_any_call T h2⟩

abbrev s__law_any_figure : Stmt := top 21
abbrev N__law_any_figure : List Str := ["_law_d", "_law_found", "_law_k", "_law_j"]
theorem sc__law_any_figure : FnScope N__law_any_figure ["_law_d"] (defScope s__law_any_figure) := ⟨rfl, rfl, rfl, by decide +kernel, rfl, by decide +kernel, by decide +kernel⟩
theorem fn__law_any_figure {f : Addr} {fd : FuncData} (T : Tx w K mg) (hF : Fun K "_law_any_figure" "_law_any_figure" s__law_any_figure f fd) : FnOk P w K mg base (L2N.CX P w) 4 f fd ["_law_d"] (spF K mg 1 F__law_any_figure) :=
  def_fn (k := 3) hF sc__law_any_figure rfl rfl (fun cdv A outer s H G E hr cy pass =>
(rs_cons (rs_set (i := 1) cy rfl (Or.inl rfl) (re_lst ra_nil))
(rs_cons (rs_for pass cy (ri_range1 rfl T.b_range (re_mod (re_ix cy (nv 0) re_int) re_int)) (rg1 cy 2)
(rs_one (rs_app (i := 1) rfl (Or.inl rfl) (re_lc cy (ri_range1 rfl T.b_range (re_add cy re_int (re_mod (re_div (re_ix cy (nv 0) re_int) (re_add cy re_int (nv 2))) re_int))) (blkOk_by (N := N__law_any_figure) (sc := defScope s__law_any_figure) (own := [("_law_j", 3)]) (by decide +kernel)) (by decide) (fun _ _ _ _ _ cy1 => (rg1 cy1 3)) (fun _ _ _ _ _ cy1 => rts_nil) (fun _ _ _ _ _ cy1 => (re_call cy1 (d__law_any_call T) (hr.mono (by decide)) rfl (ra_cons (re_sl cy1 (nv 0) (ro_is (re_add cy1 (re_add cy1 re_int (re_mul re_int (nv 2))) (re_mul re_int (nv 3)))) ro_no) ra_nil)))))))
(rs_one (rs_ret (nv 1))))))
theorem d__law_any_figure (T : Tx w K mg) : DefOk P w K mg base 4 "_law_any_figure" 1 F__law_any_figure := by
  obtain ⟨f, fd, h1, h2, h3⟩ := T.f__law_any_figure
  exact ⟨f, fd, _, h1, h2.kp, h3, fn__law_any_figure T h2⟩

abbrev s_law : Stmt := top 22
abbrev N_law : List Str := ["_law_script", "_law_numbers_here", "_law_k", "_law_figure", "_law_handed", "_law_due", "_law_found"]
theorem sc_law : FnScope N_law ["_law_script"] (defScope s_law) := ⟨rfl, rfl, rfl, by decide +kernel, rfl, by decide +kernel, by decide +kernel⟩
theorem fn_law {f : Addr} {fd : FuncData} (T : Tx w K mg) (hF : Fun K "law" "law" s_law f fd) : FnOk P w K mg base (L2N.CX P w) 14 f fd ["_law_script"] (spF K mg 1 F_law) :=
  def_fn (k := 13) hF sc_law rfl rfl (fun cdv A outer s H G E hr cy pass =>
(rs_cons (rs_set (i := 1) cy rfl (Or.inl rfl) (re_call cy (d__law_numbers T) (hr.mono (by decide)) rfl (ra_cons (nv 0) (ra_cons re_int ra_nil))))
(rs_cons (rs_for pass cy (ri_range1 rfl T.b_range re_int) (rg1 cy 2)
(rs_cons (rs_set (i := 3) cy rfl (Or.inl rfl) (re_call cy (d__law_any_figure T) (hr.mono (by decide)) rfl (ra_cons (re_sl cy (nv 1) (ro_is (re_mul re_int (nv 2))) (ro_is (re_add cy (re_mul re_int (nv 2)) re_int))) ra_nil)))
(rs_frz 3 (rs_cons (rs_set (i := 4) cy rfl (Or.inl rfl) (re_call cy (d__law_copied T) (hr.mono (by decide)) rfl (ra_cons (nv 3) ra_nil)))
(rs_frz 3 (rs_cons (rs_set (i := 5) cy rfl (Or.inl rfl) (re_call cy (d__law_figure_text T) (hr.mono (by decide)) rfl (ra_cons (nv 3) ra_nil)))
(rs_frz 3 (rs_frz 4 (rs_frz 5 (rs_cons (rs_if (PW.pt (rw_or (rt_not (rt_val (re_call cy (d__law_same T) (hr.mono (by decide)) rfl (ra_cons (re_lst (ra_cons (re_call cy (d_figure_text T) (hr.mono (by decide)) rfl (ra_cons (nv 4) ra_nil)) (ra_cons (re_call cy (d_figure_text T) (hr.mono (by decide)) rfl (ra_cons (re_call cy (d__law_kept T) (hr.mono (by decide)) rfl (ra_cons (nv 3) ra_nil)) ra_nil)) ra_nil))) (ra_cons (re_lst (ra_cons (nv 5) (ra_cons (nv 5) ra_nil))) ra_nil))))) (rw_or1 (rt_cmp (cd_ne cy) (nv 4) (nv 3) (nomark _)))))
(rs_one (rs_ret re_bl))
rs_nil)
(rs_frz 5 (rs_cons (rs_set (i := 6) cy rfl (Or.inl rfl) (re_call cy (d_read_figure T) (hr.mono (by decide)) rfl (ra_cons (nv 5) ra_nil)))
(rs_frz 3 (rs_frz 6 (rs_one (rs_if (rt_not (rt_val (re_call cy (d__law_same T) (hr.mono (by decide)) rfl (ra_cons (nv 6) (ra_cons (nv 3) ra_nil)))))
(rs_one (rs_ret re_bl))
rs_nil))))))))))))))))
(rs_one (rs_ret (re_and (re_call cy (d__law_same T) (hr.mono (by decide)) rfl (ra_cons (re_call cy (d_figure_text T) (hr.mono (by decide)) rfl (ra_cons (re_lst ra_nil) ra_nil)) (ra_cons re_s ra_nil))) (re_one (re_call cy (d__law_same T) (hr.mono (by decide)) rfl (ra_cons (re_call cy (d_read_figure T) (hr.mono (by decide)) rfl (ra_cons re_s ra_nil)) (ra_cons (re_lst ra_nil) ra_nil))))))))))
end
end C
end

section
set_option maxRecDepth 100000
set_option maxHeartbeats 1000000
namespace C
open PySem PySem.Spec L2 Ly
open PyProof.Rows hiding St
theorem same_seq {k : Nat} {d : D} {ds : List D} (hty : (∃ t, d = .l t) ∨ ∃ t, d = .t t) (hk : ∀ k : Int, kIx (.sh d) (.sh (.i k)) = ixR ds k) (hlen : kLen (.sh d) = .ok (.sh (.i ds.length))) (hl : ds.length ≤ 16777216) (hs : ∀ x ∈ ds, G__law_same k [x, x] = .ok (.sh (.b true))) : G__law_same (k + 1) [d, d] = .ok (.sh (.b true)) := by
  have h1 : kIs false (.sh d) (.sh .n) = .ok (.sh (.b false)) := by rcases hty with ⟨t, rfl⟩ | ⟨t, rfl⟩ <;> rfl
  have h2 : kIsi2 "list" "tuple" (.sh d) = .ok (.sh (.b true)) := by rcases hty with ⟨t, rfl⟩ | ⟨t, rfl⟩ <;> rfl
  have h3 : ∃ a, kIsi "list" (.sh d) = .ok (.sh (.b a)) := by rcases hty with ⟨t, rfl⟩ | ⟨t, rfl⟩ <;> exact ⟨_, rfl⟩
  have h4 : ∃ a, kIsi "tuple" (.sh d) = .ok (.sh (.b a)) := by rcases hty with ⟨t, rfl⟩ | ⟨t, rfl⟩ <;> exact ⟨_, rfl⟩
  have h5 : ∀ a : Bool, kNe (.sh (.b a)) (.sh (.b a)) = .ok (.sh (.b false)) := by intro a; cases a <;> rfl
  obtain ⟨a, h3⟩ := h3
  obtain ⟨b, h4⟩ := h4
  have hr : itR 0 (ds.length : Int) = .ok (rgD 0 ds.length) := itR_ok (by unfold rgb; exact decide_eq_true ⟨by decide, by decide, by omega, by omega⟩)
  have hL : ∀ e, lcL (.one 2) tYesF (eCall 2 (G__law_same k) (aCons (e2 kIx (eV 0) (eV 2)) (aCons (e2 kIx (eV 1) (eV 2)) aNil))) [some (.sh d), some (.sh d), e] (rgD 0 ds.length) = .ok (List.replicate ds.length (.b true)) := by
    intro e
    have := lcL_same (t := .one 2) (fe := eCall 2 (G__law_same k) (aCons (e2 kIx (eV 0) (eV 2)) (aCons (e2 kIx (eV 1) (eV 2)) aNil))) (y := .b true) (Γ0 := [some (.sh d), some (.sh d), e]) (ds := rgD 0 ds.length) fun x hx => by
      obtain ⟨i, hi⟩ := List.getElem?_of_mem hx
      obtain ⟨rfl, hi⟩ := rgD_get hi
      have hlt : i < ds.length := by omega
      have e1 : kIx (.sh d) (.sh (.i (0 + (i : Int)))) = .ok (.sh ds[i]) := by rw [hk]; exact ixR_is (n := i) (by omega) (by simp [hlt])
      refine ⟨_, rfl, .sh (.b true), ?_, rfl⟩
      simp only [List.set_cons_zero, List.set_cons_succ, eCall_at, aCons_at, e2_at, eV_0, eV_s, aNil_at]
      simp [hs _ (List.getElem_mem hlt)] at e1 ⊢
      simp [e1, hs _ (List.getElem_mem hlt)]
    rw [this]
    simp [rgD]
  rw [G__law_same, runF, b__law_same]
  simp -implicitDefEqProofs [h1, h2, h3, h4, h5, hlen, hr, hL, lcRes_rep hl, kAll_rep]
theorem same_refl : ∀ (n : Nat) (d : D), dsame n d = true → G__law_same (n + 1) [d, d] = .ok (.sh (.b true))
  | _, .n, _ => rfl
  | _, .b x, _ => by cases x <;> rfl
  | _, .i x, _ => by
    have h1 : kIs false (.sh (.i x)) (.sh .n) = .ok (.sh (.b false)) := rfl
    have h2 : kIsi2 "list" "tuple" (.sh (.i x)) = .ok (.sh (.b false)) := rfl
    have h3 : kIsi "bool" (.sh (.i x)) = .ok (.sh (.b false)) := rfl
    have h4 : kIsi "str" (.sh (.i x)) = .ok (.sh (.b false)) := rfl
    have h6 : kIsi "int" (.sh (.i x)) = .ok (.sh (.b true)) := rfl
    have h5 : ∀ a : Bool, kNe (.sh (.b a)) (.sh (.b a)) = .ok (.sh (.b false)) := by intro a; cases a <;> rfl
    have h7 : ∀ a : Bool, kEq (.sh (.b a)) (.sh (.b a)) = .ok (.sh (.b true)) := by intro a; cases a <;> rfl
    rw [G__law_same, runF, b__law_same]
    simp [h1, h2, h3, h4, h5, h6, h7]
  | _, .s x, h => by
    have hx : PyData.strOk x = true := by simpa [dsame] using h
    have h1 : kIs false (.sh (.s x)) (.sh .n) = .ok (.sh (.b false)) := rfl
    have h2 : kIsi2 "list" "tuple" (.sh (.s x)) = .ok (.sh (.b false)) := rfl
    have h3 : kIsi "bool" (.sh (.s x)) = .ok (.sh (.b false)) := rfl
    have h4 : kIsi "str" (.sh (.s x)) = .ok (.sh (.b true)) := rfl
    have h6 : kIsi "int" (.sh (.s x)) = .ok (.sh (.b false)) := rfl
    have h5 : ∀ a : Bool, kNe (.sh (.b a)) (.sh (.b a)) = .ok (.sh (.b false)) := by intro a; cases a <;> rfl
    have h7 : ∀ a : Bool, kEq (.sh (.b a)) (.sh (.b a)) = .ok (.sh (.b true)) := by intro a; cases a <;> rfl
    have h8 : kEq (.sh (.s x)) (.sh (.s x)) = .ok (.sh (.b true)) := by
      unfold kEq
      have : dok 12 (.s x) = true := by simpa [dok] using hx
      rw [if_pos ⟨this, this⟩]
      show okb (x == x) = _
      simp [okb]
    rw [G__law_same, runF, b__law_same]
    simp [h1, h2, h3, h4, h5, h6, h7, h8]
  | n + 1, .l xs, h => by
    simp [dsame] at h
    exact same_seq (.inl ⟨_, rfl⟩) (fun _ => rfl) rfl h.2 fun x hx => same_refl n x (h.1 x hx)
  | n + 1, .t xs, h => by
    simp [dsame] at h
    exact same_seq (ds := xs) (.inr ⟨_, rfl⟩) (fun _ => rfl) rfl h.2 fun x hx => same_refl n x (h.1 x hx)
  | 0, .l _, h | 0, .t _, h | _, .z _, h | _, .zt _, h | _, .dk _ _, h | _, .dt _ _, h | _, .o _, h => by simp [dsame] at h
theorem same_law {d : D} (h : dsame 11 d = true) : F__law_same [d, d] = .ok (.sh (.b true)) := same_refl 11 d h
theorem t_same {α : Type} [DecidableEq α] (ea : α → D) (a b : α) : RE1 .sh eB (sameT ea a b) (F__law_same [ea a, ea b]) := same_of (fun d h => same_law h) a b
end C
end

section
set_option maxRecDepth 100000
set_option maxHeartbeats 4000000
namespace C
open PySem PySem.Spec L2 Ly
open PyProof.Rows hiding St
def B1_figure_text   (v5 : (List Str)) (v4 : (List (Str × List Int))) : Re ((List Str)) :=
  (((Re.ok ("+" : Str) : Re Str).bind fun v24 => ((Re.ok v4 : Re (List (Str × List Int))).bind fun v23 => lcM (mapT (fun (v17 : (Str × List Int)) => ((Re.ok (":" : Str) : Re Str).bind fun v21 => (((Re.ok v17 : Re (Str × List Int)).bind fun v18 => Re.ok (partsT v18)).bind fun v20 => lcM (mapT (fun (v19 : (Str ⊕ Int)) => (strPT v19)) v20)).bind fun v22 => joinT v21 v22)) v23)).bind fun v25 => joinT v24 v25).bind fun (v26 : Str) => ((appT v5 v26).bind fun v27 => (Re.ok v27 : Re ((List Str)))))
theorem tb1_figure_text (p0 : (List (List (Str × List Int))))  (v5 : (List Str)) (v4 : (List (Str × List Int))) : BG 5 ([(2, Rv.sh ((eL eCl) v4))] ++ [(0, .sh ((eL (eL eCl)) p0)), (1, .fr ((eL eS) v5))]) (PN 5 (fun (v5 : (List Str)) => [(0, .sh ((eL (eL eCl)) p0)), (1, .fr ((eL eS) v5))])) (B1_figure_text  v5 v4) L1_figure_text := by
  unfold B1_figure_text L1_figure_text
  exact (bg_last (bg_app (i := 1) (xs := v5) (e := eS) (by rfl) rfl (er_M er_s (er_lc (ir_a rfl (er_v (i := 2) (a := v4) (e := (eL eCl)) (by rfl))) (tc_1 (m := 5) (by decide)) rfl fun v17 => (er_M er_s (er_lc (ir_cl (er_v (i := 4) (a := v17) (e := eCl) (by rfl))) (tc_1 (m := 5) (by decide)) rfl fun v19 => (er_p1 (er_v (i := 3) (a := v19) (e := ePt) (by rfl)) o_strP)) fun _ _ => o_join)) fun _ _ => o_join) fun v27 => (bg_end (sub_c (by rfl) (sub_c (by rfl) (sub_n))))))
def T_figure_text (p0 : (List (List (Str × List Int)))) : Re Str :=
  ((Re.ok (decide (((p0).length : Int) = (0 : Int))) : Re Bool).bind fun v1 => if v1 = true then ((Re.ok ("-" : Str) : Re Str).bind fun (v2 : Str) => Re.ok v2) else ((Re.ok ([] : (List Str)) : Re (List Str)).bind fun (v3 : (List Str)) => ((Re.ok p0 : Re (List (List (Str × List Int)))).bind fun v32 => (forT (B1_figure_text ) v32 v3).bind fun (v28 : (List Str)) => (((Re.ok ("/" : Str) : Re Str).bind fun v29 => (Re.ok v28 : Re (List Str)).bind fun v30 => joinT v29 v30).bind fun (v31 : Str) => Re.ok v31))))
theorem t_figure_text (p0 : (List (List (Str × List Int)))) : RE1 .sh eS (T_figure_text p0) (F_figure_text [(eL (eL eCl)) p0]) := fn_t rfl (by decide) rfl (n := 1) (mm := 5) (by
  unfold T_figure_text b_figure_text
  exact (bg_ifD (tr_v (er_p2 (er_p1 (er_v (i := 0) (a := p0) (e := (eL (eL eCl))) (by rfl)) o_lenL) er_i (o_eq (eqI 12)))) (bg_ret er_s fun _ => ⟨_, rfl, rfl⟩) (bg_nil (bg_set (i := 1) (by decide) rfl (er_lstp (e := eS) lr_n (Nat.zero_le _)) fun v3 => (bg_for (Lh := fun (v5 : (List Str)) => [(0, .sh ((eL (eL eCl)) p0)), (1, .fr ((eL eS) v5))]) (S := (List Str)) (ir_a rfl (er_v (i := 0) (a := p0) (e := (eL (eL eCl))) (by rfl))) (tg_1 (m := 5) (by decide)) (sub_c (by rfl) (sub_c (by rfl) (sub_n))) (fun v5 v4 => (tb1_figure_text p0 v5 v4)) fun v28 => (bg_last (bg_ret (er_M er_s (er_vf (i := 1) (a := v28) (e := (eL eS)) (by rfl)) fun _ _ => o_join) fun _ => ⟨_, rfl, rfl⟩)))))))

def B1_figure_text_a   (v5 : (List Str)) (v4 : (List (Str × List Int))) : Re ((List Str)) :=
  (((Re.ok ("+" : Str) : Re Str).bind fun v24 => ((Re.ok v4 : Re (List (Str × List Int))).bind fun v23 => lcM (mapT (fun (v17 : (Str × List Int)) => ((Re.ok (":" : Str) : Re Str).bind fun v21 => (((Re.ok v17 : Re (Str × List Int)).bind fun v18 => Re.ok (partsT v18)).bind fun v20 => lcM (mapT (fun (v19 : (Str ⊕ Int)) => (strPT v19)) v20)).bind fun v22 => joinT v21 v22)) v23)).bind fun v25 => joinT v24 v25).bind fun (v26 : Str) => ((appT v5 v26).bind fun v27 => (Re.ok v27 : Re ((List Str)))))
theorem tb1_figure_text_a (p0 : (List (List (Str × List Int))))  (v5 : (List Str)) (v4 : (List (Str × List Int))) : BG 5 ([(2, Rv.sh ((eTu eCl) v4))] ++ [(0, .sh ((eTu (eTu eCl)) p0)), (1, .fr ((eL eS) v5))]) (PN 5 (fun (v5 : (List Str)) => [(0, .sh ((eTu (eTu eCl)) p0)), (1, .fr ((eL eS) v5))])) (B1_figure_text_a  v5 v4) L1_figure_text := by
  unfold B1_figure_text_a L1_figure_text
  exact (bg_last (bg_app (i := 1) (xs := v5) (e := eS) (by rfl) rfl (er_M er_s (er_lc (ir_t (er_v (i := 2) (a := v4) (e := (eTu eCl)) (by rfl))) (tc_1 (m := 5) (by decide)) rfl fun v17 => (er_M er_s (er_lc (ir_cl (er_v (i := 4) (a := v17) (e := eCl) (by rfl))) (tc_1 (m := 5) (by decide)) rfl fun v19 => (er_p1 (er_v (i := 3) (a := v19) (e := ePt) (by rfl)) o_strP)) fun _ _ => o_join)) fun _ _ => o_join) fun v27 => (bg_end (sub_c (by rfl) (sub_c (by rfl) (sub_n))))))
def T_figure_text_a (p0 : (List (List (Str × List Int)))) : Re Str :=
  ((Re.ok (decide (((p0).length : Int) = (0 : Int))) : Re Bool).bind fun v1 => if v1 = true then ((Re.ok ("-" : Str) : Re Str).bind fun (v2 : Str) => Re.ok v2) else ((Re.ok ([] : (List Str)) : Re (List Str)).bind fun (v3 : (List Str)) => ((Re.ok p0 : Re (List (List (Str × List Int)))).bind fun v32 => (forT (B1_figure_text_a ) v32 v3).bind fun (v28 : (List Str)) => (((Re.ok ("/" : Str) : Re Str).bind fun v29 => (Re.ok v28 : Re (List Str)).bind fun v30 => joinT v29 v30).bind fun (v31 : Str) => Re.ok v31))))
theorem t_figure_text_a (p0 : (List (List (Str × List Int)))) : RE1 .sh eS (T_figure_text_a p0) (F_figure_text [(eTu (eTu eCl)) p0]) := fn_t rfl (by decide) rfl (n := 1) (mm := 5) (by
  unfold T_figure_text_a b_figure_text
  exact (bg_ifD (tr_v (er_p2 (er_p1 (er_v (i := 0) (a := p0) (e := (eTu (eTu eCl))) (by rfl)) o_lenT) er_i (o_eq (eqI 12)))) (bg_ret er_s fun _ => ⟨_, rfl, rfl⟩) (bg_nil (bg_set (i := 1) (by decide) rfl (er_lstp (e := eS) lr_n (Nat.zero_le _)) fun v3 => (bg_for (Lh := fun (v5 : (List Str)) => [(0, .sh ((eTu (eTu eCl)) p0)), (1, .fr ((eL eS) v5))]) (S := (List Str)) (ir_t (er_v (i := 0) (a := p0) (e := (eTu (eTu eCl))) (by rfl))) (tg_1 (m := 5) (by decide)) (sub_c (by rfl) (sub_c (by rfl) (sub_n))) (fun v5 v4 => (tb1_figure_text_a p0 v5 v4)) fun v28 => (bg_last (bg_ret (er_M er_s (er_vf (i := 1) (a := v28) (e := (eL eS)) (by rfl)) fun _ _ => o_join) fun _ => ⟨_, rfl, rfl⟩)))))))

def T_number_in (p0 : Str) : Re Int :=
  ((((cutST p0 none (some (1 : Int))).bind fun v1 => (eqsT v1 ("-" : Str))).bind fun v2 => if v2 = true then (cutST p0 (some (1 : Int)) none) else (Re.ok p0 : Re Str)).bind fun (v3 : Str) => (((((Re.ok (1 : Int) : Re Int).bind fun v4 => (lenST v3).bind fun v5 => if (decide (v4 ≤ v5)) = true then (Re.ok (60 : Int) : Re Int).bind fun v6 => Re.ok (decide (v5 ≤ v6)) else Re.ok false).bind fun v7 => Re.ok (!v7)).bind fun v12 => if v12 = true then Re.ok true else ((((Re.ok (signsT v3) : Re (List Str)).bind fun v9 => lcM (mapT (fun (v8 : Str) => (inSgT v8 "0123456789" )) v9)).bind fun v10 => Re.ok ((v10).all id)).bind fun v11 => Re.ok (!v11))).bind fun v13 => if v13 = true then (Re.bad : Re Int) else ((((ixsT v3 (0 : Int)).bind fun v14 => (eqsT v14 ("0" : Str))).bind fun v15 => if v15 = true then (nesT p0 ("0" : Str)) else Re.ok false).bind fun v16 => if v16 = true then (Re.bad : Re Int) else ((intT p0).bind fun (v17 : Int) => Re.ok v17))))
theorem t_number_in (p0 : Str) : RE1 .sh eI (T_number_in p0) (F_number_in [eS p0]) := fn_t rfl (by decide) rfl (n := 1) (mm := 3) (by
  unfold T_number_in b_number_in
  exact (bg_set (i := 1) (by decide) rfl (er_if (tr_v (er_pr (er_slp (er_v (i := 0) (a := p0) (e := eS) (by rfl)) or_n (or_ip er_i) o_slS) er_s fun _ => o_eqs)) (er_slp (er_v (i := 0) (a := p0) (e := eS) (by rfl)) (or_ip er_i) or_n o_slS) (er_v (i := 0) (a := p0) (e := eS) (by rfl))) fun v3 => (bg_frz (bg_ifD (tr_or (tr_not (tr_v (er_chg er_i (er_p1 (er_v (i := 1) (a := v3) (e := eS) (by rfl)) o_lenSt) er_i (fun _ _ => o_le) (fun _ _ => o_le)))) (tr_not (tr_v (er_1 (er_lc (ir_sp (er_v (i := 1) (a := v3) (e := eS) (by rfl))) (tc_1 (m := 3) (by decide)) rfl fun v8 => (er_p2 (er_v (i := 2) (a := v8) (e := eS) (by rfl)) er_s o_inSg)) fun _ => o_all)))) bg_sbad (bg_nil (bg_ifD (tr_and (tr_v (er_pr (er_p2 (er_v (i := 1) (a := v3) (e := eS) (by rfl)) er_i o_ixs) er_s fun _ => o_eqs)) (tr_v (er_p2 (er_v (i := 0) (a := p0) (e := eS) (by rfl)) er_s o_nes))) bg_sbad (bg_nil (bg_last (bg_ret (er_p1 (er_v (i := 0) (a := p0) (e := eS) (by rfl)) o_intS) fun _ => ⟨_, rfl, rfl⟩)))))))))

def T_call_in (p0 : Str) : Re (Str × List Int) :=
  (((Re.ok p0 : Re Str).bind fun v1 => (Re.ok (":" : Str) : Re Str).bind fun v2 => splitT v1 v2).bind fun (v3 : (List Str)) => ((((ixT v3 (0 : Int)).bind fun v4 => Re.ok (getW2T w_SIZES v4 (0 : Int))).bind fun v5 => Re.ok (!decide (v5 = ((v3).length : Int)))).bind fun v6 => if v6 = true then (Re.bad : Re (Str × List Int)) else ((((ixT v3 (0 : Int)).bind fun v7 => (Re.ok [] : Re (List Int)).bind fun v8 => if v8.length < 16777216 then Re.ok (v7, v8) else Re.bad).bind fun v12 => (((Re.ok (cut v3 (some (1 : Int)) none) : Re (List Str)).bind fun v10 => lcM (mapT (fun (v9 : Str) => (T_number_in v9)) v10)).bind fun v11 => Re.ok v11).bind fun v13 => (addclT v12 v13)).bind fun (v14 : (Str × List Int)) => Re.ok v14)))
theorem t_call_in (p0 : Str) : RE1 .sh eCl (T_call_in p0) (F_call_in [eS p0]) := fn_t rfl (by decide) rfl (n := 1) (mm := 3) (by
  unfold T_call_in b_call_in
  exact (bg_set (i := 1) (by decide) rfl (er_M (er_v (i := 0) (a := p0) (e := eS) (by rfl)) er_s fun _ _ => o_split) fun v3 => (bg_ifD (tr_v (er_pr (er_pr (er_p2 (er_vf (i := 1) (a := v3) (e := (eL eS)) (by rfl)) er_i o_ix) er_i fun _ => o_getW2) (er_p1 (er_vf (i := 1) (a := v3) (e := (eL eS)) (by rfl)) o_lenL) fun _ => (o_ne (eqI 12)))) bg_sbad (bg_nil (bg_last (bg_ret (er_2 (er_tupcl rfl (er_p2 (er_vf (i := 1) (a := v3) (e := (eL eS)) (by rfl)) er_i o_ix) lr_n) (er_1 (er_lc (ir_a rfl (er_slp (er_vf (i := 1) (a := v3) (e := (eL eS)) (by rfl)) (or_ip er_i) or_n o_slL)) (tc_1 (m := 3) (by decide)) rfl fun v9 => (er_callp (ar_c rfl (er_v (i := 2) (a := v9) (e := eS) (by rfl)) ar_n) rfl rfl (t_number_in v9))) fun _ => o_tuple) fun _ _ => o_addcl) fun _ => ⟨_, rfl, rfl⟩))))))

def B1_read_figure   (v7 : (List (List (Str × List Int)))) (v6 : Str) : Re ((List (List (Str × List Int)))) :=
  ((((Re.ok v6 : Re Str).bind fun v14 => (Re.ok ("+" : Str) : Re Str).bind fun v15 => splitT v14 v15).bind fun v17 => lcM (mapT (fun (v16 : Str) => (T_call_in v16)) v17)).bind fun (v18 : (List (Str × List Int))) => ((appT v7 v18).bind fun v19 => (Re.ok v19 : Re ((List (List (Str × List Int)))))))
theorem tb1_read_figure (p0 : Str)  (v7 : (List (List (Str × List Int)))) (v6 : Str) : BG 4 ([(2, Rv.sh (eS v6))] ++ [(0, .sh (eS p0)), (1, .fr ((eL (eL eCl)) v7))]) (PN 4 (fun (v7 : (List (List (Str × List Int)))) => [(0, .sh (eS p0)), (1, .fr ((eL (eL eCl)) v7))])) (B1_read_figure  v7 v6) L1_read_figure := by
  unfold B1_read_figure L1_read_figure
  exact (bg_last (bg_app (i := 1) (xs := v7) (e := (eL eCl)) (by rfl) rfl (er_lc (ir_a rfl (er_M (er_v (i := 2) (a := v6) (e := eS) (by rfl)) er_s fun _ _ => o_split)) (tc_1 (m := 4) (by decide)) rfl fun v16 => (er_callp (ar_c rfl (er_v (i := 3) (a := v16) (e := eS) (by rfl)) ar_n) rfl rfl (t_call_in v16))) fun v19 => (bg_end (sub_c (by rfl) (sub_c (by rfl) (sub_n))))))
def T_read_figure (p0 : Str) : Re (List (List (Str × List Int))) :=
  ((eqsT p0 ("-" : Str)).bind fun v1 => if v1 = true then ((Re.ok ([] : (List (List (Str × List Int)))) : Re (List (List (Str × List Int)))).bind fun (v2 : (List (List (Str × List Int)))) => Re.ok v2) else ((Re.ok ([] : (List (List (Str × List Int)))) : Re (List (List (Str × List Int)))).bind fun (v3 : (List (List (Str × List Int)))) => (((Re.ok p0 : Re Str).bind fun v4 => (Re.ok ("/" : Str) : Re Str).bind fun v5 => splitT v4 v5).bind fun v22 => (forT (B1_read_figure ) v22 v3).bind fun (v20 : (List (List (Str × List Int)))) => ((Re.ok v20 : Re (List (List (Str × List Int)))).bind fun (v21 : (List (List (Str × List Int)))) => Re.ok v21))))
theorem t_read_figure (p0 : Str) : RE1 .fr (eL (eL eCl)) (T_read_figure p0) (F_read_figure [eS p0]) := fn_t rfl (by decide) rfl (n := 1) (mm := 4) (by
  unfold T_read_figure b_read_figure
  exact (bg_ifD (tr_v (er_p2 (er_v (i := 0) (a := p0) (e := eS) (by rfl)) er_s o_eqs)) (bg_ret (er_lstp (e := (eL eCl)) lr_n (Nat.zero_le _)) fun _ => ⟨_, rfl, rfl⟩) (bg_nil (bg_set (i := 1) (by decide) rfl (er_lstp (e := (eL eCl)) lr_n (Nat.zero_le _)) fun v3 => (bg_for (Lh := fun (v7 : (List (List (Str × List Int)))) => [(0, .sh (eS p0)), (1, .fr ((eL (eL eCl)) v7))]) (S := (List (List (Str × List Int)))) (ir_a rfl (er_M (er_v (i := 0) (a := p0) (e := eS) (by rfl)) er_s fun _ _ => o_split)) (tg_1 (m := 4) (by decide)) (sub_c (by rfl) (sub_c (by rfl) (sub_n))) (fun v7 v6 => (tb1_read_figure p0 v7 v6)) fun v20 => (bg_last (bg_ret (er_vf (i := 1) (a := v20) (e := (eL (eL eCl))) (by rfl)) fun _ => ⟨_, rfl, rfl⟩)))))))

def B3__law_numbers   (v42 : (List Int) × Int) (v41 : Int) : Re ((List Int) × Int) :=
  (((Re.ok (decide ((0 : Int) < v42.2)) : Re Bool).bind fun v51 => if v51 = true then ((Re.ok (v42.2 % (1013 : Int)) : Re Int).bind fun (v56 : Int) => ((appT v42.1 v56).bind fun v57 => ((Re.ok (v42.2 / (1013 : Int)) : Re Int).bind fun (v58 : Int) => (Re.ok (v57, v58) : Re ((List Int) × Int))))) else (Re.ok (v42.1, v42.2) : Re ((List Int) × Int))).bind fun (v55 : (List Int) × Int) => (Re.ok (v55.1, v55.2) : Re ((List Int) × Int)))
theorem tb3__law_numbers (p0 : (List Int)) (p1 : Int) (v3 : Int) (v33 : Int) (v42 : (List Int) × Int) (v41 : Int) : BG 7 ([(6, Rv.sh (eI v41))] ++ [(0, .sh (eZ p0)), (1, .sh (eI p1)), (2, .fr ((eL eI) v42.1)), (4, .sh (eI v3)), (3, .sh (eI v33)), (5, .sh (eI v42.2))]) (PN 7 (fun (v42 : (List Int) × Int) => [(0, .sh (eZ p0)), (1, .sh (eI p1)), (2, .fr ((eL eI) v42.1)), (4, .sh (eI v3)), (3, .sh (eI v33)), (5, .sh (eI v42.2))])) (B3__law_numbers  v42 v41) L1__law_numbers := by
  unfold B3__law_numbers L1__law_numbers
  exact (bg_last (bg_seq (Lo := fun (v55 : (List Int) × Int) => [(0, .sh (eZ p0)), (1, .sh (eI p1)), (2, .fr ((eL eI) v55.1)), (4, .sh (eI v3)), (3, .sh (eI v33)), (6, .sh (eI v41)), (5, .sh (eI v55.2))]) (bg_if (tr_v (er_p2 (er_v (i := 5) (a := v42.2) (e := eI) (by rfl)) er_i o_gt)) (bg_app (i := 2) (xs := v42.1) (e := eI) (by rfl) rfl (er_p2 (er_v (i := 5) (a := v42.2) (e := eI) (by rfl)) er_i (o_mod (by decide))) fun v57 => (bg_last (bg_set (i := 5) (by decide) rfl (er_p2 (er_v (i := 5) (a := v42.2) (e := eI) (by rfl)) er_i (o_div (by decide))) fun v58 => (bg_end (sub_c (by rfl) (sub_c (by rfl) (sub_c (by rfl) (sub_c (by rfl) (sub_c (by rfl) (sub_c (by rfl) (sub_c (by rfl) (sub_n)))))))))))) (bg_end (sub_c (by rfl) (sub_c (by rfl) (sub_c (by rfl) (sub_c (by rfl) (sub_c (by rfl) (sub_c (by rfl) (sub_c (by rfl) (sub_n)))))))))) fun v55 => (bg_end (sub_c (by rfl) (sub_c (by rfl) (sub_c (by rfl) (sub_c (by rfl) (sub_c (by rfl) (sub_c (by rfl) (sub_n))))))))))
def B2__law_numbers   (v4 : (List Int) × Int) (v3 : Int) : Re ((List Int) × Int) :=
  ((Re.ok ((((v4.2 * (40692 : Int)) + (v3 % (999961 : Int))) + (31 : Int)) % (2147483399 : Int)) : Re Int).bind fun (v33 : Int) => ((Re.ok (v3 - ((10 : Int) ^ ((18 : Int)).toNat)) : Re Int).bind fun (v34 : Int) => (((Re.ok (decide (v34 < (0 : Int))) : Re Bool).bind fun v35 => if v35 = true then ((Re.ok (v3 % (9967 : Int)) : Re Int).bind fun (v39 : Int) => ((appT v4.1 v39).bind fun v40 => (Re.ok v40 : Re ((List Int))))) else (Re.ok v4.1 : Re ((List Int)))).bind fun (v38 : (List Int)) => ((rngT (0 : Int) (60 : Int)).bind fun v60 => (forT (B3__law_numbers ) v60 (v38, v34)).bind fun (v59 : (List Int) × Int) => (Re.ok (v59.1, v33) : Re ((List Int) × Int))))))
theorem tb2__law_numbers (p0 : (List Int)) (p1 : Int)  (v4 : (List Int) × Int) (v3 : Int) : BG 7 ([(4, Rv.sh (eI v3))] ++ [(0, .sh (eZ p0)), (1, .sh (eI p1)), (2, .fr ((eL eI) v4.1)), (3, .sh (eI v4.2))]) (PN 7 (fun (v4 : (List Int) × Int) => [(0, .sh (eZ p0)), (1, .sh (eI p1)), (2, .fr ((eL eI) v4.1)), (3, .sh (eI v4.2))])) (B2__law_numbers  v4 v3) L2__law_numbers := by
  unfold B2__law_numbers L2__law_numbers
  exact (bg_set (i := 3) (by decide) rfl (er_p2 (er_p2 (er_p2 (er_p2 (er_v (i := 3) (a := v4.2) (e := eI) (by rfl)) er_i (o_mul_r (by decide))) (er_p2 (er_v (i := 4) (a := v3) (e := eI) (by rfl)) er_i (o_mod (by decide))) o_add) er_i o_add) er_i (o_mod (by decide))) fun v33 => (bg_set (i := 5) (by decide) rfl (er_p2 (er_v (i := 4) (a := v3) (e := eI) (by rfl)) (er_p2 er_i er_i (o_pow (by decide))) o_sub) fun v34 => (bg_seq (Lo := fun (v38 : (List Int)) => [(0, .sh (eZ p0)), (1, .sh (eI p1)), (2, .fr ((eL eI) v38)), (4, .sh (eI v3)), (3, .sh (eI v33)), (5, .sh (eI v34))]) (bg_if (tr_v (er_p2 (er_v (i := 5) (a := v34) (e := eI) (by rfl)) er_i o_lt)) (bg_last (bg_app (i := 2) (xs := v4.1) (e := eI) (by rfl) rfl (er_p2 (er_v (i := 4) (a := v3) (e := eI) (by rfl)) er_i (o_mod (by decide))) fun v40 => (bg_end (sub_c (by rfl) (sub_c (by rfl) (sub_c (by rfl) (sub_c (by rfl) (sub_c (by rfl) (sub_c (by rfl) (sub_n)))))))))) (bg_end (sub_c (by rfl) (sub_c (by rfl) (sub_c (by rfl) (sub_c (by rfl) (sub_c (by rfl) (sub_c (by rfl) (sub_n))))))))) fun v38 => (bg_last (bg_for (Lh := fun (v42 : (List Int) × Int) => [(0, .sh (eZ p0)), (1, .sh (eI p1)), (2, .fr ((eL eI) v42.1)), (4, .sh (eI v3)), (3, .sh (eI v33)), (5, .sh (eI v42.2))]) (S := (List Int) × Int) (ir_r1p er_i) (tg_1 (m := 7) (by decide)) (sub_c (by rfl) (sub_c (by rfl) (sub_c (by rfl) (sub_c (by rfl) (sub_c (by rfl) (sub_c (by rfl) (sub_n))))))) (fun v42 v41 => (tb3__law_numbers p0 p1 v3 v33 v42 v41)) fun v59 => (bg_end (sub_c (by rfl) (sub_c (by rfl) (sub_c (by rfl) (sub_c (by rfl) (sub_n)))))))))))
def B4__law_numbers   (v63 : (List Int) × Int) : Re ((List Int) × Int) :=
  ((((((mulT v63.2 v63.2).bind fun v71 => Re.ok (v71 + ((48271 : Int) * v63.2))).bind fun v72 => Re.ok (v72 + ((17 : Int) * ((v63.1).length : Int)))).bind fun v73 => Re.ok (v73 + (5 : Int))).bind fun v74 => Re.ok (v74 % (2147483629 : Int))).bind fun (v75 : Int) => ((Re.ok ((v75 / (1019 : Int)) % (9967 : Int)) : Re Int).bind fun (v76 : Int) => ((appT v63.1 v76).bind fun v77 => (Re.ok (v77, v75) : Re ((List Int) × Int)))))
theorem tb4__law_numbers (p0 : (List Int)) (p1 : Int)  (v63 : (List Int) × Int) : BG 7 ([(0, .sh (eZ p0)), (1, .sh (eI p1)), (2, .fr ((eL eI) v63.1)), (3, .sh (eI v63.2))]) (PN 7 (fun (v63 : (List Int) × Int) => [(0, .sh (eZ p0)), (1, .sh (eI p1)), (2, .fr ((eL eI) v63.1)), (3, .sh (eI v63.2))])) (B4__law_numbers  v63) L3__law_numbers := by
  unfold B4__law_numbers L3__law_numbers
  exact (bg_set (i := 3) (by decide) rfl (er_pr (er_pr (er_pr (er_pr (er_p2 (er_v (i := 3) (a := v63.2) (e := eI) (by rfl)) (er_v (i := 3) (a := v63.2) (e := eI) (by rfl)) o_mul) (er_p2 er_i (er_v (i := 3) (a := v63.2) (e := eI) (by rfl)) (o_mul_l (by decide))) fun _ => o_add) (er_p2 er_i (er_p1 (er_vf (i := 2) (a := v63.1) (e := (eL eI)) (by rfl)) o_lenL) (o_mul_l (by decide))) fun _ => o_add) er_i fun _ => o_add) er_i fun _ => (o_mod (by decide))) fun v75 => (bg_last (bg_app (i := 2) (xs := v63.1) (e := eI) (by rfl) rfl (er_p2 (er_p2 (er_v (i := 3) (a := v75) (e := eI) (by rfl)) er_i (o_div (by decide))) er_i (o_mod (by decide))) fun v77 => (bg_end (sub_c (by rfl) (sub_c (by rfl) (sub_c (by rfl) (sub_c (by rfl) (sub_n)))))))))
def C4__law_numbers (p1 : Int)  (v63 : (List Int) × Int) : Re Bool :=
  (Re.ok (decide (((v63.1).length : Int) < p1)) : Re Bool)
def T__law_numbers (p0 : (List Int)) (p1 : Int) : Re (List Int) :=
  ((Re.ok ([] : (List Int)) : Re (List Int)).bind fun (v1 : (List Int)) => ((Re.ok (71 : Int) : Re Int).bind fun (v2 : Int) => ((Re.ok (cut p0 none (some (63 : Int))) : Re (List Int)).bind fun v81 => (forT (B2__law_numbers ) v81 (v1, v2)).bind fun (v61 : (List Int) × Int) => ((whT (C4__law_numbers p1) (B4__law_numbers ) 1000 (v61.1, v61.2)).bind fun (v78 : (List Int) × Int) => ((Re.ok (cut v78.1 none (some p1)) : Re (List Int)).bind fun (v79 : (List Int)) => Re.ok v79)))))
theorem t__law_numbers (p0 : (List Int)) (p1 : Int) : RE1 .fr (eL eI) (T__law_numbers p0 p1) (F__law_numbers [eZ p0, eI p1]) := fn_t rfl (by decide) rfl (n := 2) (mm := 7) (by
  unfold T__law_numbers b__law_numbers
  exact (bg_set (i := 2) (by decide) rfl (er_lstp (e := eI) lr_n (Nat.zero_le _)) fun v1 => (bg_set (i := 3) (by decide) rfl er_i fun v2 => (bg_for (Lh := fun (v4 : (List Int) × Int) => [(0, .sh (eZ p0)), (1, .sh (eI p1)), (2, .fr ((eL eI) v4.1)), (3, .sh (eI v4.2))]) (S := (List Int) × Int) (ir_a rfl (er_slp (er_v (i := 0) (a := p0) (e := eZ) (by rfl)) or_n (or_ip er_i) o_slZ)) (tg_1 (m := 7) (by decide)) (sub_c (by rfl) (sub_c (by rfl) (sub_c (by rfl) (sub_c (by rfl) (sub_n))))) (fun v4 v3 => (tb2__law_numbers p0 p1 v4 v3)) fun v61 => (bg_wh (Lh := fun (v63 : (List Int) × Int) => [(0, .sh (eZ p0)), (1, .sh (eI p1)), (2, .fr ((eL eI) v63.1)), (3, .sh (eI v63.2))]) (S := (List Int) × Int) (sub_c (by rfl) (sub_c (by rfl) (sub_c (by rfl) (sub_c (by rfl) (sub_n))))) (fun v63 => (tr_v (er_p2 (er_p1 (er_vf (i := 2) (a := v63.1) (e := (eL eI)) (by rfl)) o_lenL) (er_v (i := 1) (a := p1) (e := eI) (by rfl)) o_lt))) (fun v63 => (tb4__law_numbers p0 p1 v63)) fun v78 => (bg_last (bg_ret (er_slp (er_vf (i := 2) (a := v78.1) (e := (eL eI)) (by rfl)) or_n (or_ip (er_v (i := 1) (a := p1) (e := eI) (by rfl))) o_slL) fun _ => ⟨_, rfl, rfl⟩)))))))

def B1__law_ten   (v3 : Int) (v2 : Int) : Re (Int) :=
  ((Re.ok (v3 * (10 : Int)) : Re Int).bind fun (v5 : Int) => (Re.ok v5 : Re (Int)))
theorem tb1__law_ten (p0 : Int)  (v3 : Int) (v2 : Int) : BG 3 ([(2, Rv.sh (eI v2))] ++ [(0, .sh (eI p0)), (1, .sh (eI v3))]) (PN 3 (fun (v3 : Int) => [(0, .sh (eI p0)), (1, .sh (eI v3))])) (B1__law_ten  v3 v2) L1__law_ten := by
  unfold B1__law_ten L1__law_ten
  exact (bg_last (bg_set (i := 1) (by decide) rfl (er_p2 (er_v (i := 1) (a := v3) (e := eI) (by rfl)) er_i (o_mul_r (by decide))) fun v5 => (bg_end (sub_c (by rfl) (sub_c (by rfl) (sub_n))))))
def T__law_ten (p0 : Int) : Re Int :=
  ((Re.ok (1 : Int) : Re Int).bind fun (v1 : Int) => ((rngT (0 : Int) p0).bind fun v8 => (forT (B1__law_ten ) v8 v1).bind fun (v6 : Int) => ((Re.ok v6 : Re Int).bind fun (v7 : Int) => Re.ok v7)))
theorem t__law_ten (p0 : Int) : RE1 .sh eI (T__law_ten p0) (F__law_ten [eI p0]) := fn_t rfl (by decide) rfl (n := 1) (mm := 3) (by
  unfold T__law_ten b__law_ten
  exact (bg_set (i := 1) (by decide) rfl er_i fun v1 => (bg_for (Lh := fun (v3 : Int) => [(0, .sh (eI p0)), (1, .sh (eI v3))]) (S := Int) (ir_r1p (er_v (i := 0) (a := p0) (e := eI) (by rfl))) (tg_1 (m := 3) (by decide)) (sub_c (by rfl) (sub_c (by rfl) (sub_n))) (fun v3 v2 => (tb1__law_ten p0 v3 v2)) fun v6 => (bg_last (bg_ret (er_v (i := 1) (a := v6) (e := eI) (by rfl)) fun _ => ⟨_, rfl, rfl⟩)))))

def T__law_copied (p0 : (List (List (Str × List Int)))) : Re (List (List (Str × List Int))) :=
  (((Re.ok p0 : Re (List (List (Str × List Int)))).bind fun v2 => lcP (v2.map fun (v1 : (List (Str × List Int))) => v1)).bind fun (v3 : (List (List (Str × List Int)))) => Re.ok v3)
theorem t__law_copied (p0 : (List (List (Str × List Int)))) : RE1 .fr (eL (eL eCl)) (T__law_copied p0) (F__law_copied [(eL (eL eCl)) p0]) := fn_t rfl (by decide) rfl (n := 1) (mm := 2) (by
  unfold T__law_copied b__law_copied
  exact (bg_last (bg_ret (er_lcp (ir_a rfl (er_v (i := 0) (a := p0) (e := (eL (eL eCl))) (by rfl))) (tc_1 (m := 2) (by decide)) rfl fun v1 => (er_p1 (er_v (i := 1) (a := v1) (e := (eL eCl)) (by rfl)) o_list)) fun _ => ⟨_, rfl, rfl⟩)))

def T__law_kept (p0 : (List (List (Str × List Int)))) : Re (List (List (Str × List Int))) :=
  ((((Re.ok p0 : Re (List (List (Str × List Int)))).bind fun v2 => lcP (v2.map fun (v1 : (List (Str × List Int))) => v1)).bind fun v3 => Re.ok v3).bind fun (v4 : (List (List (Str × List Int)))) => Re.ok v4)
theorem t__law_kept (p0 : (List (List (Str × List Int)))) : RE1 .sh (eTu (eTu eCl)) (T__law_kept p0) (F__law_kept [(eL (eL eCl)) p0]) := fn_t rfl (by decide) rfl (n := 1) (mm := 2) (by
  unfold T__law_kept b__law_kept
  exact (bg_last (bg_ret (er_1 (er_lcp (ir_a rfl (er_v (i := 0) (a := p0) (e := (eL (eL eCl))) (by rfl))) (tc_1 (m := 2) (by decide)) rfl fun v1 => (er_p1 (er_v (i := 1) (a := v1) (e := (eL eCl)) (by rfl)) o_tuple)) fun _ => o_tuple) fun _ => ⟨_, rfl, rfl⟩)))

def T__law_call_text (p0 : (Str × List Int)) : Re Str :=
  (((Re.ok (":" : Str) : Re Str).bind fun v4 => (((Re.ok p0 : Re (Str × List Int)).bind fun v1 => Re.ok (partsT v1)).bind fun v3 => lcM (mapT (fun (v2 : (Str ⊕ Int)) => (strPT v2)) v3)).bind fun v5 => joinT v4 v5).bind fun (v6 : Str) => Re.ok v6)
theorem t__law_call_text (p0 : (Str × List Int)) : RE1 .sh eS (T__law_call_text p0) (F__law_call_text [eCl p0]) := fn_t rfl (by decide) rfl (n := 1) (mm := 2) (by
  unfold T__law_call_text b__law_call_text
  exact (bg_last (bg_ret (er_M er_s (er_lc (ir_cl (er_v (i := 0) (a := p0) (e := eCl) (by rfl))) (tc_1 (m := 2) (by decide)) rfl fun v2 => (er_p1 (er_v (i := 1) (a := v2) (e := ePt) (by rfl)) o_strP)) fun _ _ => o_join) fun _ => ⟨_, rfl, rfl⟩)))

def T__law_figure_text (p0 : (List (List (Str × List Int)))) : Re Str :=
  ((Re.ok (decide (((p0).length : Int) = (0 : Int))) : Re Bool).bind fun v1 => if v1 = true then ((Re.ok ("-" : Str) : Re Str).bind fun (v2 : Str) => Re.ok v2) else (((Re.ok ("/" : Str) : Re Str).bind fun v9 => ((Re.ok p0 : Re (List (List (Str × List Int)))).bind fun v8 => lcM (mapT (fun (v3 : (List (Str × List Int))) => ((Re.ok ("+" : Str) : Re Str).bind fun v6 => ((Re.ok v3 : Re (List (Str × List Int))).bind fun v5 => lcM (mapT (fun (v4 : (Str × List Int)) => (T__law_call_text v4)) v5)).bind fun v7 => joinT v6 v7)) v8)).bind fun v10 => joinT v9 v10).bind fun (v11 : Str) => Re.ok v11))
theorem t__law_figure_text (p0 : (List (List (Str × List Int)))) : RE1 .sh eS (T__law_figure_text p0) (F__law_figure_text [(eL (eL eCl)) p0]) := fn_t rfl (by decide) rfl (n := 1) (mm := 3) (by
  unfold T__law_figure_text b__law_figure_text
  exact (bg_ifD (tr_v (er_p2 (er_p1 (er_v (i := 0) (a := p0) (e := (eL (eL eCl))) (by rfl)) o_lenL) er_i (o_eq (eqI 12)))) (bg_ret er_s fun _ => ⟨_, rfl, rfl⟩) (bg_nil (bg_last (bg_ret (er_M er_s (er_lc (ir_a rfl (er_v (i := 0) (a := p0) (e := (eL (eL eCl))) (by rfl))) (tc_1 (m := 3) (by decide)) rfl fun v3 => (er_M er_s (er_lc (ir_a rfl (er_v (i := 2) (a := v3) (e := (eL eCl)) (by rfl))) (tc_1 (m := 3) (by decide)) rfl fun v4 => (er_callp (ar_c rfl (er_v (i := 1) (a := v4) (e := eCl) (by rfl)) ar_n) rfl rfl (t__law_call_text v4))) fun _ _ => o_join)) fun _ _ => o_join) fun _ => ⟨_, rfl, rfl⟩)))))

def T__law_any_number (p0 : (List Int)) : Re Int :=
  ((((ixT p0 (2 : Int)).bind fun v1 => Re.ok (v1 % (29 : Int))).bind fun v2 => Re.ok (decide (v2 = (28 : Int)))).bind fun v3 => if v3 = true then (((((ixT p0 (0 : Int)).bind fun v4 => Re.ok (v4 % (3 : Int))).bind fun v5 => Re.ok (v5 - (1 : Int))).bind fun v8 => ((T__law_ten (59 : Int)).bind fun v6 => (ixT p0 (1 : Int)).bind fun v7 => Re.ok (v6 + v7)).bind fun v9 => (mulT v8 v9)).bind fun (v10 : Int) => Re.ok v10) else (((((ixT p0 (0 : Int)).bind fun v11 => Re.ok (v11 % (3 : Int))).bind fun v12 => Re.ok (v12 - (1 : Int))).bind fun v20 => (((ixT p0 (1 : Int)).bind fun v15 => (((ixT p0 (2 : Int)).bind fun v13 => Re.ok (v13 % (56 : Int))).bind fun v14 => T__law_ten v14).bind fun v16 => (mulT v15 v16)).bind fun v18 => ((ixT p0 (0 : Int)).bind fun v17 => Re.ok (v17 % (10 : Int))).bind fun v19 => Re.ok (v18 + v19)).bind fun v21 => (mulT v20 v21)).bind fun (v22 : Int) => Re.ok v22))
theorem t__law_any_number (p0 : (List Int)) : RE1 .sh eI (T__law_any_number p0) (F__law_any_number [(eL eI) p0]) := fn_t rfl (by decide) rfl (n := 1) (mm := 1) (by
  unfold T__law_any_number b__law_any_number
  exact (bg_ifD (tr_v (er_pr (er_pr (er_p2 (er_v (i := 0) (a := p0) (e := (eL eI)) (by rfl)) er_i o_ix) er_i fun _ => (o_mod (by decide))) er_i fun _ => (o_eq (eqI 12)))) (bg_ret (er_2 (er_pr (er_pr (er_p2 (er_v (i := 0) (a := p0) (e := (eL eI)) (by rfl)) er_i o_ix) er_i fun _ => (o_mod (by decide))) er_i fun _ => o_sub) (er_2 (er_callp (ar_c rfl er_i ar_n) rfl rfl (t__law_ten (59 : Int))) (er_p2 (er_v (i := 0) (a := p0) (e := (eL eI)) (by rfl)) er_i o_ix) fun _ _ => o_add) fun _ _ => o_mul) fun _ => ⟨_, rfl, rfl⟩) (bg_nil (bg_last (bg_ret (er_2 (er_pr (er_pr (er_p2 (er_v (i := 0) (a := p0) (e := (eL eI)) (by rfl)) er_i o_ix) er_i fun _ => (o_mod (by decide))) er_i fun _ => o_sub) (er_2 (er_2 (er_p2 (er_v (i := 0) (a := p0) (e := (eL eI)) (by rfl)) er_i o_ix) (er_call (cr_c rfl (er_pr (er_p2 (er_v (i := 0) (a := p0) (e := (eL eI)) (by rfl)) er_i o_ix) er_i fun _ => (o_mod (by decide))) fun v14 => (cr_n (call_out rfl rfl (t__law_ten v14))))) fun _ _ => o_mul) (er_pr (er_p2 (er_v (i := 0) (a := p0) (e := (eL eI)) (by rfl)) er_i o_ix) er_i fun _ => (o_mod (by decide))) fun _ _ => o_add) fun _ _ => o_mul) fun _ => ⟨_, rfl, rfl⟩)))))

def T__law_any_call (p0 : (List Int)) : Re (Str × List Int) :=
  ((((ixT p0 (0 : Int)).bind fun v1 => Re.ok (v1 % (8 : Int))).bind fun v2 => (ixT ([("ring" : Str), ("chain" : Str), ("cross" : Str), ("pass" : Str), ("corner" : Str), ("cast" : Str), ("lead" : Str), ("stand" : Str)] : List Str) v2)).bind fun (v3 : Str) => ((((ixT p0 (0 : Int)).bind fun v4 => Re.ok (v4 % (8 : Int))).bind fun v5 => (ixT ([(3 : Int), (3 : Int), (1 : Int), (2 : Int), (2 : Int), (2 : Int), (2 : Int), (1 : Int)] : List Int) v5)).bind fun (v6 : Int) => (((((rngT (0 : Int) v6).bind fun v8 => lcM (mapT (fun (v7 : Int) => (T__law_any_number (cut p0 (some ((1 : Int) + ((3 : Int) * v7))) none))) v8)).bind fun v9 => Re.ok v9).bind fun v10 => (addclT ((v3, []) : Str × List Int) v10)).bind fun (v11 : (Str × List Int)) => Re.ok v11)))
theorem t__law_any_call (p0 : (List Int)) : RE1 .sh eCl (T__law_any_call p0) (F__law_any_call [(eL eI) p0]) := fn_t rfl (by decide) rfl (n := 1) (mm := 4) (by
  unfold T__law_any_call b__law_any_call
  exact (bg_set (i := 1) (by decide) rfl (er_pl (er_lstp (lr_cp rfl er_s (lr_cp rfl er_s (lr_cp rfl er_s (lr_cp rfl er_s (lr_cp rfl er_s (lr_cp rfl er_s (lr_cp rfl er_s (lr_cp rfl er_s lr_n)))))))) (Nat.le_of_ble_eq_true rfl)) (er_pr (er_p2 (er_v (i := 0) (a := p0) (e := (eL eI)) (by rfl)) er_i o_ix) er_i fun _ => (o_mod (by decide))) fun _ => o_ix) fun v3 => (bg_set (i := 2) (by decide) rfl (er_pl (er_lstp (lr_cp rfl er_i (lr_cp rfl er_i (lr_cp rfl er_i (lr_cp rfl er_i (lr_cp rfl er_i (lr_cp rfl er_i (lr_cp rfl er_i (lr_cp rfl er_i lr_n)))))))) (Nat.le_of_ble_eq_true rfl)) (er_pr (er_p2 (er_v (i := 0) (a := p0) (e := (eL eI)) (by rfl)) er_i o_ix) er_i fun _ => (o_mod (by decide))) fun _ => o_ix) fun v6 => (bg_frz (bg_last (bg_ret (er_pl (er_tupclp rfl (er_v (i := 1) (a := v3) (e := eS) (by rfl)) lr_n (Nat.le_of_ble_eq_true rfl)) (er_1 (er_lc (ir_r1p (er_v (i := 2) (a := v6) (e := eI) (by rfl))) (tc_1 (m := 4) (by decide)) rfl fun v7 => (er_callp (ar_c rfl (er_slp (er_v (i := 0) (a := p0) (e := (eL eI)) (by rfl)) (or_ip (er_p2 er_i (er_p2 er_i (er_v (i := 3) (a := v7) (e := eI) (by rfl)) (o_mul_l (by decide))) o_add)) or_n o_slL) ar_n) rfl rfl (t__law_any_number (cut p0 (some ((1 : Int) + ((3 : Int) * v7))) none)))) fun _ => o_tuple) fun _ => o_addcl) fun _ => ⟨_, rfl, rfl⟩))))))

def B1__law_any_figure (p0 : (List Int))  (v5 : (List (List (Str × List Int)))) (v4 : Int) : Re ((List (List (Str × List Int)))) :=
  (((((((ixT p0 (1 : Int)).bind fun v14 => (divT v14 ((3 : Int) + v4))).bind fun v15 => Re.ok (v15 % (3 : Int))).bind fun v16 => Re.ok ((1 : Int) + v16)).bind fun v17 => rngT (0 : Int) v17).bind fun v19 => lcM (mapT (fun (v18 : Int) => (T__law_any_call (cut p0 (some (((2 : Int) + ((30 : Int) * v4)) + ((10 : Int) * v18))) none))) v19)).bind fun (v20 : (List (Str × List Int))) => ((appT v5 v20).bind fun v21 => (Re.ok v21 : Re ((List (List (Str × List Int)))))))
theorem tb1__law_any_figure (p0 : (List Int))  (v5 : (List (List (Str × List Int)))) (v4 : Int) : BG 4 ([(2, Rv.sh (eI v4))] ++ [(0, .sh ((eL eI) p0)), (1, .fr ((eL (eL eCl)) v5))]) (PN 4 (fun (v5 : (List (List (Str × List Int)))) => [(0, .sh ((eL eI) p0)), (1, .fr ((eL (eL eCl)) v5))])) (B1__law_any_figure p0 v5 v4) L1__law_any_figure := by
  unfold B1__law_any_figure L1__law_any_figure
  exact (bg_last (bg_app (i := 1) (xs := v5) (e := (eL eCl)) (by rfl) rfl (er_lc (ir_r1 (er_pl er_i (er_pr (er_pr (er_p2 (er_v (i := 0) (a := p0) (e := (eL eI)) (by rfl)) er_i o_ix) (er_p2 er_i (er_v (i := 2) (a := v4) (e := eI) (by rfl)) o_add) fun _ => o_divT) er_i fun _ => (o_mod (by decide))) fun _ => o_add)) (tc_1 (m := 4) (by decide)) rfl fun v18 => (er_callp (ar_c rfl (er_slp (er_v (i := 0) (a := p0) (e := (eL eI)) (by rfl)) (or_ip (er_p2 (er_p2 er_i (er_p2 er_i (er_v (i := 2) (a := v4) (e := eI) (by rfl)) (o_mul_l (by decide))) o_add) (er_p2 er_i (er_v (i := 3) (a := v18) (e := eI) (by rfl)) (o_mul_l (by decide))) o_add)) or_n o_slL) ar_n) rfl rfl (t__law_any_call (cut p0 (some (((2 : Int) + ((30 : Int) * v4)) + ((10 : Int) * v18))) none)))) fun v21 => (bg_end (sub_c (by rfl) (sub_c (by rfl) (sub_n))))))
def T__law_any_figure (p0 : (List Int)) : Re (List (List (Str × List Int))) :=
  ((Re.ok ([] : (List (List (Str × List Int)))) : Re (List (List (Str × List Int)))).bind fun (v1 : (List (List (Str × List Int)))) => ((((ixT p0 (0 : Int)).bind fun v2 => Re.ok (v2 % (4 : Int))).bind fun v3 => rngT (0 : Int) v3).bind fun v24 => (forT (B1__law_any_figure p0) v24 v1).bind fun (v22 : (List (List (Str × List Int)))) => ((Re.ok v22 : Re (List (List (Str × List Int)))).bind fun (v23 : (List (List (Str × List Int)))) => Re.ok v23)))
theorem t__law_any_figure (p0 : (List Int)) : RE1 .fr (eL (eL eCl)) (T__law_any_figure p0) (F__law_any_figure [(eL eI) p0]) := fn_t rfl (by decide) rfl (n := 1) (mm := 4) (by
  unfold T__law_any_figure b__law_any_figure
  exact (bg_set (i := 1) (by decide) rfl (er_lstp (e := (eL eCl)) lr_n (Nat.zero_le _)) fun v1 => (bg_for (Lh := fun (v5 : (List (List (Str × List Int)))) => [(0, .sh ((eL eI) p0)), (1, .fr ((eL (eL eCl)) v5))]) (S := (List (List (Str × List Int)))) (ir_r1 (er_pr (er_p2 (er_v (i := 0) (a := p0) (e := (eL eI)) (by rfl)) er_i o_ix) er_i fun _ => (o_mod (by decide)))) (tg_1 (m := 4) (by decide)) (sub_c (by rfl) (sub_c (by rfl) (sub_n))) (fun v5 v4 => (tb1__law_any_figure p0 v5 v4)) fun v22 => (bg_last (bg_ret (er_vf (i := 1) (a := v22) (e := (eL (eL eCl))) (by rfl)) fun _ => ⟨_, rfl, rfl⟩)))))

def B1_law  (v1 : (List Int)) (v3 : Unit) (v2 : Int) : Re (Unit) :=
  ((T__law_any_figure (cut v1 (some ((100 : Int) * v2)) (some (((100 : Int) * v2) + (100 : Int))))).bind fun (v22 : (List (List (Str × List Int)))) => ((T__law_copied v22).bind fun (v23 : (List (List (Str × List Int)))) => ((T__law_figure_text v22).bind fun (v24 : Str) => (((((((T_figure_text v23).bind fun v28 => (((T__law_kept v22).bind fun v25 => T_figure_text_a v25).bind fun v26 => (Re.ok [] : Re (List Str)).bind fun v27 => Re.ok (v26 :: v27)).bind fun v29 => Re.ok (v28 :: v29)).bind lcP).bind fun v30 => (Re.ok ([v24, v24] : List Str) : Re (List Str)).bind fun v31 => sameT (eL eS) v30 v31).bind fun v32 => Re.ok (!v32)).bind fun v33 => if v33 = true then Re.ok true else (nequT (eL (eL eCl)) v23 v22)).bind fun v34 => if v34 = true then Re.bad else ((T_read_figure v24).bind fun (v35 : (List (List (Str × List Int)))) => (((sameT (eL (eL eCl)) v35 v22).bind fun v38 => Re.ok (!v38)).bind fun v39 => if v39 = true then Re.bad else (Re.ok () : Re (Unit))))))))
theorem tb1_law (p0 : (List Int)) (v1 : (List Int)) (v3 : Unit) (v2 : Int) : BG 7 ([(2, Rv.sh (eI v2))] ++ [(0, .sh (eZ p0)), (1, .fr ((eL eI) v1))]) (PN 7 (fun (v3 : Unit) => [(0, .sh (eZ p0)), (1, .fr ((eL eI) v1))])) (B1_law v1 v3 v2) L1_law := by
  unfold B1_law L1_law
  exact (bg_set (i := 3) (by decide) rfl (er_callp (ar_c rfl (er_slp (er_vf (i := 1) (a := v1) (e := (eL eI)) (by rfl)) (or_ip (er_p2 er_i (er_v (i := 2) (a := v2) (e := eI) (by rfl)) (o_mul_l (by decide)))) (or_ip (er_p2 (er_p2 er_i (er_v (i := 2) (a := v2) (e := eI) (by rfl)) (o_mul_l (by decide))) er_i o_add)) o_slL) ar_n) rfl rfl (t__law_any_figure (cut v1 (some ((100 : Int) * v2)) (some (((100 : Int) * v2) + (100 : Int)))))) fun v22 => (bg_frz (bg_set (i := 4) (by decide) rfl (er_callp (ar_c rfl (er_v (i := 3) (a := v22) (e := (eL (eL eCl))) (by rfl)) ar_n) rfl rfl (t__law_copied v22)) fun v23 => (bg_frz (bg_set (i := 5) (by decide) rfl (er_callp (ar_c rfl (er_v (i := 3) (a := v22) (e := (eL (eL eCl))) (by rfl)) ar_n) rfl rfl (t__law_figure_text v22)) fun v24 => (bg_frz (bg_frz (bg_frz (bg_ifD (tr_or (tr_not (tr_v (er_same2 rfl (er_lst (lr_c rfl (er_callp (ar_c rfl (er_v (i := 4) (a := v23) (e := (eL (eL eCl))) (by rfl)) ar_n) rfl rfl (t_figure_text v23)) (lr_c rfl (er_call (cr_c rfl (er_callp (ar_c rfl (er_v (i := 3) (a := v22) (e := (eL (eL eCl))) (by rfl)) ar_n) rfl rfl (t__law_kept v22)) fun v25 => (cr_n (call_out rfl rfl (t_figure_text_a v25))))) lr_n))) rfl (er_lstp (lr_cp rfl (er_v (i := 5) (a := v24) (e := eS) (by rfl)) (lr_cp rfl (er_v (i := 5) (a := v24) (e := eS) (by rfl)) lr_n)) (Nat.le_of_ble_eq_true rfl)) (t_same (eL eS))))) (tr_v (er_p2 (er_v (i := 4) (a := v23) (e := (eL (eL eCl))) (by rfl)) (er_v (i := 3) (a := v22) (e := (eL (eL eCl))) (by rfl)) (o_nej (eqjL (eqjL eqjC)))))) bg_bad (bg_nil (bg_frz (bg_set (i := 6) (by decide) rfl (er_callp (ar_c rfl (er_v (i := 5) (a := v24) (e := eS) (by rfl)) ar_n) rfl rfl (t_read_figure v24)) fun v35 => (bg_frz (bg_frz (bg_last (bg_ifD (tr_not (tr_v (er_callp (ar_c rfl (er_v (i := 6) (a := v35) (e := (eL (eL eCl))) (by rfl)) (ar_c rfl (er_v (i := 3) (a := v22) (e := (eL (eL eCl))) (by rfl)) ar_n)) rfl rfl (t_same (eL (eL eCl)) _ _)))) bg_bad (bg_nil (bg_end (sub_c (by rfl) (sub_c (by rfl) (sub_n)))))))))))))))))))))
def T_law (p0 : (List Int)) : Re Bool :=
  ((T__law_numbers p0 (600 : Int)).bind fun (v1 : (List Int)) => ((rngT (0 : Int) (6 : Int)).bind fun v47 => (forT (B1_law v1) v47 ()).bind fun (v40 : Unit) => ((((T_figure_text ([] : (List (List (Str × List Int))))).bind fun v41 => (Re.ok ("-" : Str) : Re Str).bind fun v42 => sameT eS v41 v42).bind fun v45 => if v45 = true then ((T_read_figure ("-" : Str)).bind fun v43 => (Re.ok ([] : (List (List (Str × List Int)))) : Re (List (List (Str × List Int)))).bind fun v44 => sameT (eL (eL eCl)) v43 v44) else Re.ok false).bind fun (v46 : Bool) => Re.ok v46)))
theorem t_law (p0 : (List Int)) : RE1 .sh eB (T_law p0) (F_law [eZ p0]) := fn_t rfl (by decide) rfl (n := 1) (mm := 7) (by
  unfold T_law b_law
  exact (bg_set (i := 1) (by decide) rfl (er_callp (ar_c rfl (er_v (i := 0) (a := p0) (e := eZ) (by rfl)) (ar_c rfl er_i ar_n)) rfl rfl (t__law_numbers p0 (600 : Int))) fun v1 => (bg_for (Lh := fun (v3 : Unit) => [(0, .sh (eZ p0)), (1, .fr ((eL eI) v1))]) (S := Unit) (ir_r1p er_i) (tg_1 (m := 7) (by decide)) (sub_c (by rfl) (sub_c (by rfl) (sub_n))) (fun v3 v2 => (tb1_law p0 v1 v3 v2)) fun v40 => (bg_last (bg_ret (er_and (er_same2 rfl (er_callp (ar_c rfl (er_lstp (e := (eL eCl)) lr_n (Nat.zero_le _)) ar_n) rfl rfl (t_figure_text ([] : (List (List (Str × List Int)))))) rfl er_s (t_same eS)) (er_same2 rfl (er_callp (ar_c rfl er_s ar_n) rfl rfl (t_read_figure ("-" : Str))) rfl (er_lstp (e := (eL eCl)) lr_n (Nat.zero_le _)) (t_same (eL (eL eCl))))) fun _ => ⟨_, rfl, rfl⟩)))))
end C
end

section
set_option maxRecDepth 100000
set_option maxHeartbeats 1000000
namespace C
open PySem PySem.Spec L2 Ly
open PyProof.Rows hiding St
def Small (row : List Int) : Prop := ∀ x ∈ row, 0 ≤ x ∧ x < 9967
theorem Small.snoc {row : List Int} {x : Int} (h : Small row) (h0 : 0 ≤ x) (h1 : x < 9967) : Small (row ++ [x]) := fun y hy => by
  rcases List.mem_append.mp hy with hy | hy
  · exact h y hy
  · cases List.mem_singleton.mp hy; exact ⟨h0, h1⟩
theorem num_in {row : List Int} {rest c : Int} (k : Nat) (hk : k ≤ 100000) (h1 : row.length ≤ k) (h2 : Small row) : ∃ row' rest', B3__law_numbers (row, rest) c = .ok (row', rest') ∧ row'.length ≤ k + 1 ∧ Small row' := by
  unfold B3__law_numbers
  by_cases hr : 0 < rest
  · have hl : row.length < 16777216 := by omega
    exact ⟨row ++ [rest % 1013], rest / 1013, by simp [hr, appT_ok hl], by simp; omega, h2.snoc (by omega) (by omega)⟩
  · exact ⟨row, rest, by simp [hr], by omega, h2⟩
theorem num_turn {row : List Int} {seed c : Int} (k : Nat) (hk : k ≤ 90000) (h1 : row.length ≤ k) (h2 : Small row) (h3 : 0 ≤ seed) : ∃ row' seed', B2__law_numbers (row, seed) c = .ok (row', seed') ∧ row'.length ≤ k + 61 ∧ Small row' ∧ 0 ≤ seed' ∧ seed' < 2147483629 := by
  have hr : rngT 0 60 = .ok (rangeI 0 60) := rngT_small (by omega) (by omega)
  have key : ∀ (row' : List Int) (rest : Int), row'.length ≤ k + 1 → Small row' → ∃ row2 rest2, forT B3__law_numbers (rangeI 0 60) (row', rest) = .ok (row2, rest2) ∧ row2.length ≤ k + 61 ∧ Small row2 := by
    intro row' rest a1 a2
    obtain ⟨⟨row2, rest2⟩, e, b1, b2⟩ := forT_num (B := B3__law_numbers) (as := rangeI 0 60) (I := fun i s => s.1.length ≤ k + 1 + i ∧ Small s.1) (s := (row', rest)) ⟨by simpa using a1, a2⟩ (fun i hi s hs => by
      obtain ⟨r, t⟩ := s
      have hi : i < 60 := by simpa [rangeI_len] using hi
      obtain ⟨r', t', e, c1, c2⟩ := num_in (rest := t) (c := (rangeI 0 60)[i]) (k + 1 + i) (by omega) hs.1 hs.2
      exact ⟨_, e, c1, c2⟩)
    refine ⟨row2, rest2, e, ?_, b2⟩
    have : (rangeI 0 60).length = 60 := by simp [rangeI_len]
    rw [this] at b1
    exact b1
  unfold B2__law_numbers
  have hn : 0 ≤ (seed * 40692 + c % 999961 + 31) % 2147483399 ∧ (seed * 40692 + c % 999961 + 31) % 2147483399 < 2147483629 := by omega
  by_cases hc : c - 10 ^ 18 < 0
  · have hl : row.length < 16777216 := by omega
    obtain ⟨row2, rest2, e, b1, b2⟩ := key (row ++ [c % 9967]) (c - 10 ^ 18) (by simp; omega) (h2.snoc (by omega) (by omega))
    refine ⟨row2, _, ?_, b1, b2, hn.1, hn.2⟩
    have hc' : c - 1000000000000000000 < 0 := hc
    have e' : forT B3__law_numbers (rangeI 0 60) (row ++ [c % 9967], c - 1000000000000000000) = _ := e
    simp [hc', appT_ok hl, hr, e']
  · obtain ⟨row2, rest2, e, b1, b2⟩ := key row (c - 10 ^ 18) (by omega) h2
    refine ⟨row2, _, ?_, b1, b2, hn.1, hn.2⟩
    have hc' : ¬ c - 1000000000000000000 < 0 := hc
    have e' : forT B3__law_numbers (rangeI 0 60) (row, c - 1000000000000000000) = _ := e
    simp [hc', hr, e']
theorem num_wh (many : Nat) : ∀ (n : Nat) (row : List Int) (seed : Int), many - row.length < n → row.length ≤ 4000 → many ≤ 990 → Small row → 0 ≤ seed → seed < 2147483629 → ∃ row' seed', whT (C4__law_numbers many) B4__law_numbers n (row, seed) = .ok (row', seed') ∧ many ≤ row'.length ∧ Small row'
  | 0, _, _, h, _, _, _, _, _ => absurd h (Nat.not_lt_zero _)
  | n + 1, row, seed, h, h0, hm, h1, h2, h3 => by
    unfold whT
    by_cases hl : row.length < many
    · have e1 : C4__law_numbers many (row, seed) = .ok true := by unfold C4__law_numbers; simp [hl]
      have hs : mulT seed seed = .ok (seed * seed) := mulT_l (by omega)
      have ha : row.length < 16777216 := by omega
      have e2 : B4__law_numbers (row, seed) = .ok (row ++ [(seed * seed + 48271 * seed + 17 * row.length + 5) % 2147483629 / 1019 % 9967], (seed * seed + 48271 * seed + 17 * row.length + 5) % 2147483629) := by
        unfold B4__law_numbers
        simp [hs, appT_ok ha]
      rw [e1, e2]
      simp only [Re.bind_ok, if_true]
      exact num_wh many n _ _ (by simp; omega) (by simp; omega) hm (h1.snoc (Int.emod_nonneg _ (by decide)) (Int.emod_lt_of_pos _ (by decide))) (Int.emod_nonneg _ (by decide)) (Int.emod_lt_of_pos _ (by decide))
    · have e1 : C4__law_numbers many (row, seed) = .ok false := by unfold C4__law_numbers; simp [hl]
      rw [e1]
      exact ⟨row, seed, by simp, by omega, h1⟩
theorem numbers_t (ns : List Int) (hl : ns.length ≤ 63) (many : Nat) (hm : many ≤ 990) : ∃ row : List Int, T__law_numbers ns many = .ok row ∧ row.length = many ∧ Small row := by
  obtain ⟨⟨row, seed⟩, e, h1, h2, h3, h4⟩ := forT_num (B := B2__law_numbers) (as := cut ns none (some 63)) (I := fun i s => s.1.length ≤ 61 * i ∧ Small s.1 ∧ 0 ≤ s.2 ∧ s.2 < 2147483629) (s := ([], 71)) ⟨by simp, fun x hx => (by cases hx), by decide, by decide⟩ (fun i hi s hs => by
    obtain ⟨r, t⟩ := s
    have hi : i < ns.length := Nat.lt_of_lt_of_le hi (cut_length_le ..)
    obtain ⟨r', t', e, c1, c2, c3, c4⟩ := num_turn (c := (cut ns none (some 63))[i]) (61 * i) (by omega) hs.1 hs.2.1 hs.2.2.1
    exact ⟨_, e, by simpa [Nat.mul_add] using c1, c2, c3, c4⟩)
  have hl2 : row.length ≤ 3843 := by
    have := cut_length_le ns none (some 63)
    simp only at h1
    omega
  obtain ⟨row2, seed2, e2, b1, b2⟩ := num_wh many 1000 row seed (by omega) (by omega) hm h2 h3 h4
  refine ⟨row2.take many, ?_, by rw [List.length_take]; omega, fun x hx => b2 x (List.mem_of_mem_take hx)⟩
  unfold T__law_numbers
  simp [e, e2, cut_to b1]
end C
end

section
set_option maxRecDepth 100000
set_option maxHeartbeats 1000000
namespace C
open PySem PySem.Spec L2 Ly
open PyProof.Rows hiding St
theorem tl_cutS (z : Str) (lo hi : Option Int) : TL.tl (cutS z lo hi) = cut (TL.tl z) lo hi := by
  unfold cutS cut
  rw [TL.len_tl]
theorem cut_none_some {α : Type} {xs : List α} (n : Nat) : cut xs none (some (n : Int)) = xs.take n := by
  by_cases h : n ≤ xs.length
  · exact cut_to h
  · have e1 : HT.sIx xs.length 0 none = 0 := rfl
    have e2 : HT.sIx xs.length xs.length (some (n : Int)) = xs.length := by simp only [HT.sIx]; split <;> omega
    unfold cut
    rw [e1, e2, List.drop_zero, Nat.sub_zero, List.take_length, List.take_of_length_le (by omega)]
def numT (z : Int) : Str := Str.ofString (toString z)
theorem tl_pos (n : Nat) : TL.tl (numT (n : Int)) = TL.numL n := TL.tl_num n
theorem tl_neg (m : Nat) : TL.tl (numT (Int.negSucc m)) = 45 :: TL.numL (m + 1) := by
  show (Str.ofString (toString (Int.negSucc m))).cps.toList = _
  rw [signs_ofString]
  show ("-" ++ Nat.repr (m + 1)).toList.map Char.toNat = _
  rw [String.toList_append, List.map_append, Nat.toList_repr]
  rfl
theorem num_cases (z : Int) : (∃ n : Nat, z = (n : Int) ∧ TL.tl (numT z) = TL.numL n) ∨ ∃ n : Nat, 0 < n ∧ z = -(n : Int) ∧ TL.tl (numT z) = 45 :: TL.numL n := by
  cases z with
  | ofNat n => exact .inl ⟨n, rfl, tl_pos n⟩
  | negSucc m => exact .inr ⟨m + 1, by omega, rfl, tl_neg m⟩
theorem num_free {z : Int} {k : Nat} (hk : k ≠ 45 ∧ (k < 48 ∨ 57 < k)) : k ∉ TL.tl (numT z) := int_text_free' k hk z
theorem num_len {z : Int} (h : z.natAbs < 10 ^ 60) : (numT z).length ≤ 61 := by
  rw [TL.len_tl]
  rcases num_cases z with ⟨n, rfl, e⟩ | ⟨n, _, rfl, e⟩
  · rw [e]
    have := TL.numL_len (n := n) (k := 60) (by decide) (by simpa using h)
    omega
  · rw [e]
    have := TL.numL_len (n := n) (k := 60) (by decide) (by simpa using h)
    simp only [List.length_cons]
    omega
theorem head_zero : ∀ n : Nat, (TL.numL n).head? = some 48 → n = 0 := by
  intro n
  induction n using Nat.strongRecOn with
  | _ n ih =>
    intro h
    by_cases hn : n < 10
    · rw [TL.numL_lt hn] at h
      simp at h
      exact h
    · rw [TL.numL_step (by omega)] at h
      have hne := TL.numL_ne (n / 10)
      cases e : TL.numL (n / 10) with
      | nil => exact absurd e hne
      | cons c r =>
        rw [e] at h
        have h0 : (TL.numL (n / 10)).head? = some 48 := by rw [e]; simpa using h
        have := ih (n / 10) (by omega) h0
        omega
theorem figs_in : ("0123456789" : Str).cps.toList = [48, 49, 50, 51, 52, 53, 54, 55, 56, 57] := by decide +kernel
theorem dash_ok : PyData.strOk ("-" : Str) = true := by decide +kernel
theorem zero_ok : PyData.strOk ("0" : Str) = true := by decide +kernel
theorem dash_tl : TL.tl ("-" : Str) = [45] := by decide +kernel
theorem zero_tl : TL.tl ("0" : Str) = [48] := by decide +kernel
theorem ok_of {s : Str} (h : ∀ c ∈ TL.tl s, c < 1114112) : PyData.strOk s = true := by
  unfold PyData.strOk
  rw [← Array.all_toList, List.all_eq_true]
  intro c hc
  exact decide_eq_true (h c hc)
theorem num_ok (z : Int) : PyData.strOk (numT z) = true := ok_of fun c hc => by
  rcases Nat.lt_or_ge c 1114112 with h | h
  · exact h
  · exact absurd hc (num_free ⟨by omega, .inr (by omega)⟩)
theorem nesT_is {a b : Str} (h1 : PyData.strOk a = true) (h2 : PyData.strOk b = true) : nesT a b = .ok (!decide (a = b)) := by unfold nesT; exact if_pos ⟨h1, h2⟩
theorem ixs_head {v : Str} {c : Nat} {r : List Nat} (e : TL.tl v = c :: r) (hl : v.length ≤ 16777216) : ixsT v (0 : Int) = .ok ⟨#[c]⟩ := by
  unfold ixsT
  rw [if_pos hl]
  have : L2.atI v.cps.toList 0 = some c := by
    show L2.atI (TL.tl v) 0 = some c
    rw [e]
    unfold L2.atI
    have : ixN (c :: r).length 0 = some 0 := by unfold ixN; simp
    rw [this]; rfl
  rw [this]
theorem dig_in {k : Nat} (h : 48 ≤ k ∧ k ≤ 57) : decide (k ∈ ("0123456789" : Str).cps.toList) = true := by
  rw [figs_in]
  apply decide_eq_true
  simp only [List.mem_cons, List.not_mem_nil, or_false]
  omega
theorem signs_in {v : Str} {n : Nat} (e : TL.tl v = TL.numL n) : mapT (fun v8 : Str => inSgT v8 "0123456789") (signsT v) = .ok ((signsT v).map fun _ => true) := mapT_ok fun a ha => by
  obtain ⟨k, hk, rfl⟩ := List.mem_map.mp ha
  have hk : k ∈ TL.numL n := by rw [← e]; exact hk
  rw [inSgT_ok, dig_in (TL.numL_digits n k hk)]
theorem number_t {z : Int} (h : z.natAbs < 10 ^ 60) : T_number_in (numT z) = .ok z := by
  have hz := num_len h
  have k0 : cutST (numT z) none (some (1 : Int)) = .ok (cutS (numT z) none (some 1)) := cutST_ok (by omega)
  have k1 : cutST (numT z) (some (1 : Int)) none = .ok (cutS (numT z) (some 1) none) := cutST_ok (by omega)
  have t0 : TL.tl (cutS (numT z) none (some 1)) = (TL.tl (numT z)).take 1 := by rw [tl_cutS]; exact cut_none_some 1
  have o0 : PyData.strOk (cutS (numT z) none (some 1)) = true := ok_of fun c hc => by
    rw [t0] at hc
    have hc := List.mem_of_mem_take hc
    rcases Nat.lt_or_ge c 1114112 with h | h
    · exact h
    · exact absurd hc (num_free ⟨by omega, .inr (by omega)⟩)
  have q0 := eqsT_ok o0 dash_ok
  have tail : ∀ (v : Str) (n : Nat) (c : Nat) (r : List Nat), TL.tl v = TL.numL n → TL.numL n = c :: r → n < 10 ^ 60 → (c = 48 → numT z = ("0" : Str)) →
      lenST v = .ok (v.length : Int) ∧ decide ((1 : Int) ≤ (v.length : Int)) = true ∧ decide ((v.length : Int) ≤ (60 : Int)) = true ∧ lcM (.ok ((signsT v).map fun _ => true)) = .ok ((signsT v).map fun _ => true) ∧ ((signsT v).map fun _ => true).all id = true ∧ ixsT v (0 : Int) = .ok ⟨#[c]⟩ ∧ (((eqsT ⟨#[c]⟩ ("0" : Str)).bind fun v15 => if v15 = true then (nesT (numT z) ("0" : Str)) else Re.ok false) = .ok false) := by
    intro v n c r e1 e2 hn hc
    have hl := TL.numL_len (n := n) (k := 60) (by decide) hn
    have hv : v.length = (TL.numL n).length := by rw [TL.len_tl, e1]
    have h1 : 1 ≤ (TL.numL n).length := by rw [e2]; simp
    have hc48 : c < 1114112 := by
      have := TL.numL_digits n c (by rw [e2]; exact List.mem_cons_self)
      omega
    refine ⟨lenST_ok (by omega), decide_eq_true (by omega), decide_eq_true (by omega), lcM_ok ?_, by simp, ixs_head (by rw [e1, e2]) (by omega), ?_⟩
    · unfold signsT
      rw [List.length_map, List.length_map]
      show (TL.tl v).length ≤ _
      rw [e1]; omega
    · have oc : PyData.strOk (⟨#[c]⟩ : Str) = true := ok_of fun d hd => by
        have : d = c := by simpa using hd
        omega
      rw [eqsT_ok oc zero_ok, Re.bind_ok]
      by_cases hh : (⟨#[c]⟩ : Str) = "0"
      · have c48 : c = 48 := by
          have := congrArg TL.tl hh
          rw [zero_tl] at this
          have this : [c] = [48] := this
          exact (List.cons.inj this).1
        rw [decide_eq_true hh, if_pos rfl, hc c48]
        rw [nesT_is zero_ok zero_ok]; simp
      · rw [decide_eq_false hh, if_neg Bool.false_ne_true]
  rcases num_cases z with ⟨n, rfl, e⟩ | ⟨n, hn0, rfl, e⟩
  · have hn : n < 10 ^ 60 := by simpa using h
    obtain ⟨c, r, ec⟩ : ∃ c r, TL.numL n = c :: r := by
      cases e2 : TL.numL n with
      | nil => exact absurd e2 (TL.numL_ne n)
      | cons c r => exact ⟨c, r, rfl⟩
    have nd : cutS (numT (n : Int)) none (some 1) ≠ "-" := fun z => by
      have := congrArg TL.tl z
      rw [t0, e, ec, dash_tl] at this
      have hc : c = 45 := by simpa using this
      have := TL.numL_digits n c (by rw [ec]; exact List.mem_cons_self)
      omega
    have b0 : decide (cutS (numT (n : Int)) none (some 1) = "-") = false := decide_eq_false nd
    obtain ⟨f1, f2, f3, f4, f5, f6, f7⟩ := tail (numT (n : Int)) n c r e ec hn fun hc => TL.ext_tl (by
      rw [e, zero_tl]
      have : n = 0 := head_zero n (by rw [ec, hc]; rfl)
      subst this
      decide +kernel)
    have it : intT (numT (n : Int)) = .ok (n : Int) := intT_ok (TL.int_num (by have := TL.numL_len (n := n) (k := 60) (by decide) hn; omega)) (by omega)
    unfold T_number_in
    simp -implicitDefEqProofs only [k0, q0, b0, Re.bind_ok, Bool.false_eq_true, if_false, f1, f2, f3, if_true, Bool.not_true, signs_in e, f4, f5, f6, f7, it]
  · have hn : n < 10 ^ 60 := by simpa using h
    obtain ⟨c, r, ec⟩ : ∃ c r, TL.numL n = c :: r := by
      cases e2 : TL.numL n with
      | nil => exact absurd e2 (TL.numL_ne n)
      | cons c r => exact ⟨c, r, rfl⟩
    have nd : cutS (numT (-(n : Int))) none (some 1) = "-" := TL.ext_tl (by rw [t0, e, dash_tl]; rfl)
    have b0 : decide (cutS (numT (-(n : Int))) none (some 1) = "-") = true := decide_eq_true nd
    have t1 : TL.tl (cutS (numT (-(n : Int))) (some 1) none) = TL.numL n := by
      rw [tl_cutS, e]
      exact cut_from (xs := 45 :: TL.numL n) (n := 1) (by simp)
    obtain ⟨f1, f2, f3, f4, f5, f6, f7⟩ := tail (cutS (numT (-(n : Int))) (some 1) none) n c r t1 ec hn fun hc => by
      have := head_zero n (by rw [ec, hc]; rfl)
      omega
    have it : intT (numT (-(n : Int))) = .ok (-(n : Int)) := intT_ok (by
      have := PySem.intText_neg (x := numT (-(n : Int))) (cs := TL.numL n) e (TL.numL_digits n) (TL.numL_ne n) (by omega)
      rw [this, TL.numL_val]) (by omega)
    unfold T_number_in
    simp -implicitDefEqProofs only [k0, k1, q0, b0, Re.bind_ok, Bool.false_eq_true, if_false, f1, f2, f3, if_true, Bool.not_true, signs_in t1, f4, f5, f6, f7, it]
end C
end

section
set_option maxRecDepth 100000
set_option maxHeartbeats 1000000
namespace C
open PySem PySem.Spec L2 Ly
open PyProof.Rows hiding St
theorem mem_joinL {S : List Nat} {x : Nat} : ∀ {ls : List (List Nat)}, x ∈ TL.joinL S ls → x ∈ S ∨ ∃ p ∈ ls, x ∈ p
  | [], h => by cases h
  | [p], h => .inr ⟨p, List.mem_cons_self, h⟩
  | p :: q :: r, h => by
    have h : x ∈ p ++ (S ++ TL.joinL S (q :: r)) := h
    rcases List.mem_append.mp h with h | h
    · exact .inr ⟨p, List.mem_cons_self, h⟩
    · rcases List.mem_append.mp h with h | h
      · exact .inl h
      · rcases mem_joinL h with h | ⟨l, hl, h⟩
        · exact .inl h
        · exact .inr ⟨l, List.mem_cons_of_mem _ hl, h⟩
theorem in_joinL {S : List Nat} {x : Nat} : ∀ {ls : List (List Nat)} {p : List Nat}, p ∈ ls → x ∈ p → x ∈ TL.joinL S ls
  | [q], p, hp, h => by rw [List.mem_singleton.mp hp] at h; exact h
  | a :: b :: r, p, hp, h => by
    show x ∈ a ++ (S ++ TL.joinL S (b :: r))
    rcases List.mem_cons.mp hp with rfl | hp
    · exact List.mem_append.mpr (.inl h)
    · exact List.mem_append.mpr (.inr (List.mem_append.mpr (.inr (in_joinL hp h))))
theorem tl_joined (y : Str) (ps : List Str) : TL.tl (Txt.join y ps) = TL.joinL (TL.tl y) (ps.map TL.tl) := by rw [TL.join_eq, TL.tl_join]
theorem len_joinL {S : List Nat} : ∀ (ls : List (List Nat)), (TL.joinL S ls).length ≤ (ls.map List.length).sum + ls.length * S.length
  | [] => Nat.zero_le _
  | [p] => by show p.length ≤ _; simp
  | p :: q :: r => by
    show (p ++ (S ++ TL.joinL S (q :: r))).length ≤ _
    have := len_joinL (S := S) (q :: r)
    simp only [List.length_append, List.map_cons, List.sum_cons, List.length_cons, Nat.add_mul] at this ⊢
    omega
theorem sum_le {B : Nat} : ∀ {ls : List Nat}, (∀ n ∈ ls, n ≤ B) → ls.sum ≤ ls.length * B
  | [], _ => Nat.zero_le _
  | n :: ls, h => by
    have h1 := h n List.mem_cons_self
    have h2 := sum_le fun m hm => h m (List.mem_cons_of_mem _ hm)
    simp only [List.sum_cons, List.length_cons, Nat.add_mul]
    omega
theorem join_len {y : Str} {ps : List Str} {B m : Nat} (hB : ∀ p ∈ ps, p.length ≤ B) (hm : ps.length ≤ m) (hy : y.length = 1) : (Txt.join y ps).length ≤ m * (B + 1) ∧ (ps.map (·.length)).sum + ps.length * y.length ≤ m * (B + 1) := by
  have h1 := len_joinL (S := TL.tl y) (ps.map TL.tl)
  have h2 : ((ps.map TL.tl).map List.length) = ps.map (·.length) := by
    rw [List.map_map]
    exact List.map_congr_left fun p _ => (TL.len_tl p).symm
  have h3 : (ps.map (·.length)).sum ≤ ps.length * B := by
    have := sum_le (B := B) (ls := ps.map (·.length)) fun n hn => by
      obtain ⟨p, hp, rfl⟩ := List.mem_map.mp hn
      exact hB p hp
    rwa [List.length_map] at this
  have h4 : ps.length * B + ps.length ≤ m * (B + 1) := by
    have := Nat.mul_le_mul_right (B + 1) hm
    rw [Nat.mul_add] at this
    omega
  rw [h2, List.length_map, ← TL.len_tl, hy] at h1
  rw [TL.len_tl (Txt.join y ps), tl_joined, hy]
  omega
theorem join_ok {y : Str} {ps : List Str} {B m : Nat} (hB : ∀ p ∈ ps, p.length ≤ B) (hm : ps.length ≤ m) (hy : y.length = 1) (hs : m * (B + 1) ≤ 16777216) : joinT y ps = .ok (Txt.join y ps) := joinT_ok (by have := (join_len hB hm hy).2; omega)
theorem colon_tl : TL.tl (":" : Str) = [58] := by decide +kernel
theorem plus_tl : TL.tl ("+" : Str) = [43] := by decide +kernel
theorem slash_tl : TL.tl ("/" : Str) = [47] := by decide +kernel
theorem colon_len : (":" : Str).length = 1 := by decide +kernel
theorem plus_len : ("+" : Str).length = 1 := by decide +kernel
theorem slash_len : ("/" : Str).length = 1 := by decide +kernel
def wordsN : List (Str × Nat) := [("ring", 3), ("chain", 3), ("cross", 1), ("pass", 2), ("corner", 2), ("cast", 2), ("lead", 2), ("stand", 1)]
def wordB (p : Str × Nat) : Bool := (TL.tl p.1).all (fun c => decide (97 ≤ c ∧ c ≤ 122)) && !(TL.tl p.1).isEmpty && decide (p.1.length ≤ 6) && decide (getW2T w_SIZES p.1 0 = (p.2 : Int) + 1)
theorem wordB_ok : wordsN.all wordB = true := by decide +kernel
structure TxC (c : Str × List Int) : Prop where
  word : (c.1, c.2.length) ∈ wordsN
  nums : ∀ z ∈ c.2, z.natAbs < 10 ^ 60
theorem TxC.w {c : Str × List Int} (h : TxC c) : (∀ x ∈ TL.tl c.1, 97 ≤ x ∧ x ≤ 122) ∧ TL.tl c.1 ≠ [] ∧ c.1.length ≤ 6 ∧ getW2T w_SIZES c.1 0 = (c.2.length : Int) + 1 := by
  have hh := List.all_eq_true.mp wordB_ok _ h.word
  unfold wordB at hh
  simp only [Bool.and_eq_true, decide_eq_true_eq, List.all_eq_true] at hh
  exact ⟨hh.1.1.1, fun e => by rw [e] at hh; simp at hh, hh.1.2, hh.2⟩
theorem TxC.l {c : Str × List Int} (h : TxC c) : 1 ≤ c.2.length ∧ c.2.length ≤ 3 := by
  have hw := h.word
  have e := h.w.2.2.2
  simp only [wordsN, List.mem_cons, Prod.mk.injEq, List.not_mem_nil, or_false] at hw
  omega
def callP (c : Str × List Int) : List Str := c.1 :: c.2.map numT
def callT (c : Str × List Int) : Str := Txt.join ":" (callP c)
theorem callP_len {c : Str × List Int} (h : TxC c) : (∀ p ∈ callP c, p.length ≤ 61) ∧ (callP c).length ≤ 4 := by
  refine ⟨fun p hp => ?_, by unfold callP; have := h.l; simp; omega⟩
  rcases List.mem_cons.mp hp with rfl | hp
  · have := h.w.2.2.1; omega
  · obtain ⟨z, hz, rfl⟩ := List.mem_map.mp hp
    exact num_len (h.nums z hz)
theorem callP_free {c : Str × List Int} (h : TxC c) {k : Nat} (hk : k ≠ 45 ∧ (k < 48 ∨ 57 < k)) (hk2 : k < 97) : ∀ p ∈ callP c, k ∉ TL.tl p := fun p hp => by
  rcases List.mem_cons.mp hp with rfl | hp
  · intro hm
    have := (h.w.1 k hm).1
    omega
  · obtain ⟨z, hz, rfl⟩ := List.mem_map.mp hp
    exact num_free hk
theorem parts_t {c : Str × List Int} (h : TxC c) : mapT (fun v : Str ⊕ Int => strPT v) (partsT c) = .ok (callP c) := by
  have h2 : mapT (fun v : Str ⊕ Int => strPT v) (c.2.map .inr) = .ok (c.2.map numT) := by
    have hn := h.nums
    generalize c.2 = zs at hn
    induction zs with
    | nil => rfl
    | cons z zs ih =>
      have hz := hn z List.mem_cons_self
      have hl : z.natAbs.log2 < 1920 := by
        by_cases e : z.natAbs = 0
        · rw [e]; decide
        · exact (Nat.log2_lt e).mpr (Nat.lt_trans hz (by decide +kernel))
      rw [List.map_cons, mapT, strPT_r hl, ih fun y hy => hn y (List.mem_cons_of_mem _ hy)]
      rfl
  unfold partsT
  rw [mapT, strPT_l, h2]
  rfl
theorem call_join {c : Str × List Int} (h : TxC c) : lcM (.ok (callP c)) = .ok (callP c) ∧ joinT ":" (callP c) = .ok (callT c) ∧ (callT c).length ≤ 248 := by
  obtain ⟨h1, h2⟩ := callP_len h
  exact ⟨lcM_ok (by omega), join_ok h1 h2 colon_len (by decide), (join_len h1 h2 colon_len).1⟩
theorem callT_free {c : Str × List Int} (h : TxC c) {k : Nat} (hk : k ≠ 45 ∧ (k < 48 ∨ 57 < k)) (hk2 : k < 97) (hk3 : k ≠ 58) : k ∉ TL.tl (callT c) := fun hm => by
  unfold callT at hm
  rw [tl_joined, colon_tl] at hm
  rcases mem_joinL hm with h1 | ⟨p, hp, h1⟩
  · exact hk3 (by simpa using h1)
  · obtain ⟨q, hq, rfl⟩ := List.mem_map.mp hp
    exact callP_free h hk hk2 q hq h1
theorem callT_low {c : Str × List Int} (h : TxC c) {k : Nat} (hm : k ∈ TL.tl (callT c)) : k < 128 := by
  rcases Nat.lt_or_ge k 128 with h2 | h2
  · exact h2
  · exfalso
    unfold callT at hm
    rw [tl_joined, colon_tl] at hm
    rcases mem_joinL hm with h1 | ⟨p, hp, h1⟩
    · have : k = 58 := by simpa using h1
      omega
    · obtain ⟨q, hq, rfl⟩ := List.mem_map.mp hp
      rcases List.mem_cons.mp hq with rfl | hq
      · have := (h.w.1 k h1).2; omega
      · obtain ⟨z, hz, rfl⟩ := List.mem_map.mp hq
        exact num_free ⟨by omega, .inr (by omega)⟩ h1
theorem callT_letter {c : Str × List Int} (h : TxC c) : ∃ x ∈ TL.tl (callT c), 97 ≤ x := by
  obtain ⟨h1, h2, _⟩ := h.w
  cases e : TL.tl c.1 with
  | nil => exact absurd e h2
  | cons x r =>
    refine ⟨x, ?_, (h1 x (by rw [e]; exact List.mem_cons_self)).1⟩
    unfold callT
    rw [tl_joined]
    exact in_joinL (p := TL.tl c.1) (List.mem_map_of_mem List.mem_cons_self) (by rw [e]; exact List.mem_cons_self)
theorem addcl_is {w : Str} {a ys : List Int} (h : a.length + ys.length < 1000) : addclT (w, a) ys = .ok (w, a ++ ys) := by
  unfold addclT
  exact if_pos (by show a.length + ys.length < 16777216; omega)
theorem colon_lo : (":" : Str).cps.all (· < 256) = true := by decide +kernel
theorem plus_lo : ("+" : Str).cps.all (· < 256) = true := by decide +kernel
theorem slash_lo : ("/" : Str).cps.all (· < 256) = true := by decide +kernel
theorem call_in_t {c : Str × List Int} (h : TxC c) : T_call_in (callT c) = .ok c := by
  have hl := (call_join h).2.2
  have s1 : splitT (callT c) (":" : Str) = .ok (callP c) := by
    rw [splitT_ok (by rw [colon_len]; rfl) (by rw [sizeLine_eq]; omega)]
    unfold callT
    rw [TL.split_join (s := 58) (S := []) colon_tl colon_lo (by unfold callP; simp) (callP_free h ⟨by decide, .inr (by decide)⟩ (by decide))]
  have i0 : ixT (callP c) (0 : Int) = .ok c.1 := ixT_ok (i := 0) rfl rfl
  have hL := h.l
  have g : getW2T w_SIZES c.1 (0 : Int) = ((callP c).length : Int) := by rw [h.w.2.2.2]; simp [callP]
  have d1 : (!decide (getW2T w_SIZES c.1 (0 : Int) = ((callP c).length : Int))) = false := by rw [decide_eq_true g]; rfl
  have k1 : cut (callP c) (some (1 : Int)) none = c.2.map numT := cut_from (xs := callP c) (n := 1) (by simp [callP])
  have m1 : mapT (fun v9 : Str => T_number_in v9) (c.2.map numT) = .ok c.2 := by
    have hn := h.nums
    generalize c.2 = zs at hn
    induction zs with
    | nil => rfl
    | cons z zs ih =>
      rw [List.map_cons, mapT, number_t (hn z List.mem_cons_self), ih fun y hy => hn y (List.mem_cons_of_mem _ hy)]
  have m2 : lcM (.ok c.2) = .ok c.2 := lcM_ok (by omega)
  have a1 : addclT (c.1, []) c.2 = .ok (c.1, [] ++ c.2) := addcl_is (by simp; omega)
  unfold T_call_in
  simp -implicitDefEqProofs only [Re.bind_ok, s1, i0, d1, Bool.false_eq_true, if_false, k1, m1, m2, List.length_nil, show (0 : Nat) < 16777216 from by decide, if_true, a1]
  rfl
def barP (b : List (Str × List Int)) : List Str := b.map callT
def barT (b : List (Str × List Int)) : Str := Txt.join "+" (barP b)
structure TxB (b : List (Str × List Int)) : Prop where
  l1 : 1 ≤ b.length
  l2 : b.length ≤ 10
  calls : ∀ c ∈ b, TxC c
theorem barP_len {b : List (Str × List Int)} (h : TxB b) : (∀ p ∈ barP b, p.length ≤ 248) ∧ (barP b).length ≤ 10 := by
  refine ⟨fun p hp => ?_, by unfold barP; rw [List.length_map]; exact h.l2⟩
  obtain ⟨c, hc, rfl⟩ := List.mem_map.mp hp
  exact (call_join (h.calls c hc)).2.2
theorem bar_join {b : List (Str × List Int)} (h : TxB b) : lcM (.ok (barP b)) = .ok (barP b) ∧ joinT "+" (barP b) = .ok (barT b) ∧ (barT b).length ≤ 2490 := by
  obtain ⟨h1, h2⟩ := barP_len h
  exact ⟨lcM_ok (by omega), join_ok h1 h2 plus_len (by decide), (join_len h1 h2 plus_len).1⟩
theorem barT_free {b : List (Str × List Int)} (h : TxB b) : 47 ∉ TL.tl (barT b) := fun hm => by
  unfold barT at hm
  rw [tl_joined, plus_tl] at hm
  rcases mem_joinL hm with h1 | ⟨p, hp, h1⟩
  · simp at h1
  · obtain ⟨q, hq, rfl⟩ := List.mem_map.mp hp
    obtain ⟨c, hc, rfl⟩ := List.mem_map.mp hq
    exact callT_free (h.calls c hc) ⟨by decide, .inl (by decide)⟩ (by decide) (by decide) h1
theorem barT_low {b : List (Str × List Int)} (h : TxB b) {k : Nat} (hm : k ∈ TL.tl (barT b)) : k < 128 := by
  unfold barT at hm
  rw [tl_joined, plus_tl] at hm
  rcases mem_joinL hm with h1 | ⟨p, hp, h1⟩
  · have : k = 43 := by simpa using h1
    omega
  · obtain ⟨q, hq, rfl⟩ := List.mem_map.mp hp
    obtain ⟨c, hc, rfl⟩ := List.mem_map.mp hq
    exact callT_low (h.calls c hc) h1
theorem barT_letter {b : List (Str × List Int)} (h : TxB b) : ∃ x ∈ TL.tl (barT b), 97 ≤ x := by
  cases e : b with
  | nil => have := h.l1; rw [e] at this; simp at this
  | cons c r =>
    obtain ⟨x, hx, h1⟩ := callT_letter (h.calls c (by rw [e]; exact List.mem_cons_self))
    refine ⟨x, ?_, h1⟩
    unfold barT
    rw [tl_joined]
    exact in_joinL (p := TL.tl (callT c)) (List.mem_map_of_mem (List.mem_map_of_mem List.mem_cons_self)) hx
def figP (F : List (List (Str × List Int))) : List Str := F.map barT
def figT (F : List (List (Str × List Int))) : Str := if F = [] then "-" else Txt.join "/" (figP F)
structure TxF (F : List (List (Str × List Int))) : Prop where
  l2 : F.length ≤ 10
  bars : ∀ b ∈ F, TxB b
theorem figP_len {F : List (List (Str × List Int))} (h : TxF F) : (∀ p ∈ figP F, p.length ≤ 2490) ∧ (figP F).length ≤ 10 := by
  refine ⟨fun p hp => ?_, by unfold figP; rw [List.length_map]; exact h.l2⟩
  obtain ⟨b, hb, rfl⟩ := List.mem_map.mp hp
  exact (bar_join (h.bars b hb)).2.2
theorem fig_join {F : List (List (Str × List Int))} (h : TxF F) : lcM (.ok (figP F)) = .ok (figP F) ∧ joinT "/" (figP F) = .ok (Txt.join "/" (figP F)) ∧ (Txt.join "/" (figP F)).length ≤ 24910 := by
  obtain ⟨h1, h2⟩ := figP_len h
  exact ⟨lcM_ok (by omega), join_ok h1 h2 slash_len (by decide), (join_len h1 h2 slash_len).1⟩
theorem bar_text {b : List (Str × List Int)} (h : TxB b) : mapT (fun v17 : Str × List Int => ((Re.ok (":" : Str) : Re Str).bind fun v21 => (((Re.ok v17 : Re (Str × List Int)).bind fun v18 => Re.ok (partsT v18)).bind fun v20 => lcM (mapT (fun (v19 : (Str ⊕ Int)) => (strPT v19)) v20)).bind fun v22 => joinT v21 v22)) b = .ok (barP b) := mapT_ok fun c hc => by
  have H := h.calls c hc
  obtain ⟨e1, e2, _⟩ := call_join H
  simp -implicitDefEqProofs only [Re.bind_ok, parts_t H, e1, e2]
theorem figT_ok {F : List (List (Str × List Int))} (h : TxF F) : PyData.strOk (figT F) = true := ok_of fun k hm => by
  unfold figT at hm
  split at hm
  · rw [dash_tl] at hm
    have : k = 45 := by simpa using hm
    omega
  · rw [tl_joined, slash_tl] at hm
    rcases mem_joinL hm with h1 | ⟨p, hp, h1⟩
    · have : k = 47 := by simpa using h1
      omega
    · obtain ⟨q, hq, rfl⟩ := List.mem_map.mp hp
      obtain ⟨b, hb, rfl⟩ := List.mem_map.mp hq
      have := barT_low (h.bars b hb) h1
      omega
theorem figT_dash {F : List (List (Str × List Int))} (h : TxF F) (hne : F ≠ []) : figT F ≠ "-" := fun z => by
  cases e : F with
  | nil => exact hne e
  | cons b r =>
    obtain ⟨x, hx, h1⟩ := barT_letter (h.bars b (by rw [e]; exact List.mem_cons_self))
    have hm : x ∈ TL.tl (figT F) := by
      unfold figT
      rw [if_neg hne, tl_joined]
      exact in_joinL (p := TL.tl (barT b)) (List.mem_map_of_mem (List.mem_map_of_mem (by rw [e]; exact List.mem_cons_self))) hx
    rw [z, dash_tl] at hm
    have : x = 45 := by simpa using hm
    omega
theorem appLoop {α β : Type} {B : List β → α → Re (List β)} {g : α → β} : ∀ {as : List α} {acc : List β}, acc.length + as.length ≤ 1000 → (∀ a ∈ as, ∀ acc : List β, acc.length < 1000 → B acc a = .ok (acc ++ [g a])) → forT B as acc = .ok (acc ++ as.map g)
  | [], acc, _, _ => by rw [List.map_nil, List.append_nil]; rfl
  | a :: as, acc, hl, h => by
    simp only [List.length_cons] at hl
    rw [forT_cons, h a List.mem_cons_self acc (by omega), Re.bind_ok, appLoop (by rw [List.length_append]; simp; omega) fun b hb => h b (List.mem_cons_of_mem _ hb)]
    rw [List.map_cons, List.append_assoc]; rfl
theorem figure_text_t {F : List (List (Str × List Int))} (h : TxF F) : T_figure_text F = .ok (figT F) := by
  obtain ⟨e1, e2, _⟩ := fig_join h
  have lp : forT B1_figure_text F [] = .ok ([] ++ F.map barT) := appLoop (by simpa using Nat.le_trans h.l2 (by decide)) fun b hb acc ha => by
    have H := h.bars b hb
    obtain ⟨f1, f2, _⟩ := bar_join H
    unfold B1_figure_text
    rw [show (Re.ok b : Re (List (Str × List Int))).bind (fun v23 => lcM (mapT (fun (v17 : (Str × List Int)) => ((Re.ok (":" : Str) : Re Str).bind fun v21 => (((Re.ok v17 : Re (Str × List Int)).bind fun v18 => Re.ok (partsT v18)).bind fun v20 => lcM (mapT (fun (v19 : (Str ⊕ Int)) => (strPT v19)) v20)).bind fun v22 => joinT v21 v22)) v23)) = .ok (barP b) by rw [Re.bind_ok, bar_text H, f1]]
    simp -implicitDefEqProofs only [Re.bind_ok, f2, appT_ok (show acc.length < 16777216 by omega)]
  unfold T_figure_text figT
  by_cases hF : F = []
  · subst hF; rfl
  · have d : decide ((F.length : Int) = 0) = false := decide_eq_false fun z => hF (List.length_eq_zero_iff.mp (by omega))
    simp -implicitDefEqProofs only [Re.bind_ok, d, Bool.false_eq_true, if_false, lp, List.nil_append, hF]
    have e2 : joinT "/" (F.map barT) = .ok (Txt.join "/" (figP F)) := e2
    rw [e2]; rfl
theorem figure_text_a_t {F : List (List (Str × List Int))} (h : TxF F) : T_figure_text_a F = .ok (figT F) := figure_text_t h
theorem law_call_text_t {c : Str × List Int} (h : TxC c) : T__law_call_text c = .ok (callT c) := by
  obtain ⟨e1, e2, _⟩ := call_join h
  unfold T__law_call_text
  simp -implicitDefEqProofs only [Re.bind_ok, parts_t h, e1, e2]
theorem law_figure_text_t {F : List (List (Str × List Int))} (h : TxF F) : T__law_figure_text F = .ok (figT F) := by
  obtain ⟨e1, e2, _⟩ := fig_join h
  have m : mapT (fun (v3 : (List (Str × List Int))) => ((Re.ok ("+" : Str) : Re Str).bind fun v6 => ((Re.ok v3 : Re (List (Str × List Int))).bind fun v5 => lcM (mapT (fun (v4 : (Str × List Int)) => (T__law_call_text v4)) v5)).bind fun v7 => joinT v6 v7)) F = .ok (figP F) := mapT_ok fun b hb => by
    have H := h.bars b hb
    obtain ⟨f1, f2, _⟩ := bar_join H
    have m2 : mapT (fun (v4 : (Str × List Int)) => (T__law_call_text v4)) b = .ok (barP b) := mapT_ok fun c hc => law_call_text_t (H.calls c hc)
    simp -implicitDefEqProofs only [Re.bind_ok, m2, f1, f2]
  unfold T__law_figure_text figT
  by_cases hF : F = []
  · subst hF; rfl
  · have d : decide ((F.length : Int) = 0) = false := decide_eq_false fun z => hF (List.length_eq_zero_iff.mp (by omega))
    rw [d, if_neg hF]
    refine Eq.trans (b := (((Re.ok ("/" : Str) : Re Str).bind fun v9 => ((Re.ok F : Re (List (List (Str × List Int)))).bind fun v8 => lcM (.ok (figP F))).bind fun v10 => joinT v9 v10).bind fun (v11 : Str) => Re.ok v11)) ?_ ?_
    · rw [← m]; rfl
    · simp -implicitDefEqProofs only [Re.bind_ok, e1, e2]
theorem bar_read {b : List (Str × List Int)} (h : TxB b) {acc : List (List (Str × List Int))} (ha : acc.length < 1000) : B1_read_figure acc (barT b) = .ok (acc ++ [b]) := by
  have s1 : splitT (barT b) ("+" : Str) = .ok (barP b) := by
    rw [splitT_ok (by rw [plus_len]; rfl) (by rw [sizeLine_eq]; have := (bar_join h).2.2; omega)]
    unfold barT
    rw [TL.split_join (s := 43) (S := []) plus_tl plus_lo (fun e => by have := h.l1; rw [← List.length_map (f := callT), show b.map callT = [] from e] at this; simp at this) fun p hp => by
      obtain ⟨c, hc, rfl⟩ := List.mem_map.mp hp
      exact callT_free (h.calls c hc) ⟨by decide, .inl (by decide)⟩ (by decide) (by decide)]
  have m1 : mapT (fun v16 : Str => T_call_in v16) (barP b) = .ok b := by
    have hn := h.calls
    unfold barP
    generalize b = cs at hn
    induction cs with
    | nil => rfl
    | cons c cs ih =>
      rw [List.map_cons, mapT, call_in_t (hn c List.mem_cons_self), ih fun y hy => hn y (List.mem_cons_of_mem _ hy)]
  have m2 : lcM (.ok b) = .ok b := lcM_ok (by have := h.l2; omega)
  unfold B1_read_figure
  simp -implicitDefEqProofs only [Re.bind_ok, s1, m1, m2, appT_ok (show acc.length < 16777216 by omega)]
theorem read_loop : ∀ {F acc : List (List (Str × List Int))}, acc.length + F.length ≤ 1000 → (∀ b ∈ F, TxB b) → forT B1_read_figure (F.map barT) acc = .ok (acc ++ F)
  | [], acc, _, _ => by rw [List.append_nil]; rfl
  | b :: F, acc, hl, h => by
    simp only [List.length_cons] at hl
    rw [List.map_cons, forT_cons, bar_read (h b List.mem_cons_self) (by omega), Re.bind_ok, read_loop (by rw [List.length_append]; simp; omega) fun x hx => h x (List.mem_cons_of_mem _ hx), List.append_assoc]
    rfl
theorem read_figure_t {F : List (List (Str × List Int))} (h : TxF F) : T_read_figure (figT F) = .ok F := by
  have q := eqsT_ok (figT_ok h) dash_ok
  by_cases hF : F = []
  · subst hF
    have d : decide (figT [] = ("-" : Str)) = true := by decide +kernel
    unfold T_read_figure
    simp -implicitDefEqProofs only [q, d, Re.bind_ok, if_true]
  · have d : decide (figT F = ("-" : Str)) = false := decide_eq_false (figT_dash h hF)
    have s1 : splitT (figT F) ("/" : Str) = .ok (figP F) := by
      unfold figT
      rw [if_neg hF, splitT_ok (by rw [slash_len]; rfl) (by rw [sizeLine_eq]; have := (fig_join h).2.2; omega)]
      rw [TL.split_join (parts := figP F) (s := 47) (S := []) slash_tl slash_lo (fun e => hF (List.map_eq_nil_iff.mp e)) fun p hp => by
        obtain ⟨b, hb, rfl⟩ := List.mem_map.mp hp
        exact barT_free (h.bars b hb)]
    have lp : forT B1_read_figure (figP F) [] = .ok ([] ++ F) := read_loop (by have := h.l2; simp; omega) h.bars
    unfold T_read_figure
    simp -implicitDefEqProofs only [q, d, Re.bind_ok, Bool.false_eq_true, if_false, s1, lp, List.nil_append]
theorem word_ok {c : Str × List Int} (h : TxC c) : PyData.strOk c.1 = true := ok_of fun x hx => by have := (h.w.1 x hx).2; omega
theorem dsame_C {n : Nat} {c : Str × List Int} (h : TxC c) : dsame (n + 1) (eCl c) = true := by
  show (((D.s c.1 :: c.2.map D.i).all (dsame n)) && decide ((D.s c.1 :: c.2.map D.i).length ≤ 16777216)) = true
  have hl := h.l
  rw [List.all_cons, Bool.and_eq_true, Bool.and_eq_true]
  refine ⟨⟨by cases n <;> exact word_ok h, List.all_eq_true.mpr fun x hx => ?_⟩, decide_eq_true (by rw [List.length_cons, List.length_map]; omega)⟩
  obtain ⟨z, _, rfl⟩ := List.mem_map.mp hx
  cases n <;> rfl
theorem dsame_F {F : List (List (Str × List Int))} (h : TxF F) : dsame 11 (eL (eL eCl) F) = true := dsame_L (n := 10) (fun b hb => dsame_L (n := 9) (fun c hc => dsame_C (n := 8) ((h.bars b hb).calls c hc)) (by have := (h.bars b hb).l2; omega)) (by have := h.l2; omega)
theorem dok_Ft {F : List (List (Str × List Int))} (h : TxF F) : dok 12 (eL (eL eCl) F) = true := by
  show ((F.map (eL eCl)).all (dok 11)) = true
  rw [List.all_eq_true]
  intro x hx
  obtain ⟨b, hb, rfl⟩ := List.mem_map.mp hx
  show ((b.map eCl).all (dok 10)) = true
  rw [List.all_eq_true]
  intro y hy
  obtain ⟨c, hc, rfl⟩ := List.mem_map.mp hy
  show ((D.s c.1 :: c.2.map D.i).all (dok 9)) = true
  rw [List.all_cons, dok_s, word_ok ((h.bars b hb).calls c hc), Bool.true_and, List.all_eq_true]
  intro w hw
  obtain ⟨z, _, rfl⟩ := List.mem_map.mp hw
  rfl
end C
end

section
set_option maxRecDepth 100000
set_option maxHeartbeats 1000000
namespace C
open PySem PySem.Spec L2 Ly
open PyProof.Rows hiding St
theorem ix_some {α : Type} {xs : List α} {z : Int} (h0 : 0 ≤ z) (h1 : z < xs.length) : ∃ a ∈ xs, ixT xs z = .ok a := by
  obtain ⟨i, rfl⟩ := Int.eq_ofNat_of_zero_le h0
  have hi : i < xs.length := by omega
  exact ⟨xs[i], List.getElem_mem hi, ixT_ok rfl (List.getElem?_eq_getElem hi)⟩
theorem ix_row {xs : List Int} (hs : Small xs) {z : Int} (h0 : 0 ≤ z) (h1 : z < xs.length) : ∃ a, ixT xs z = .ok a ∧ 0 ≤ a ∧ a < 9967 := by
  obtain ⟨a, ha, e⟩ := ix_some h0 h1
  exact ⟨a, e, (hs a ha).1, (hs a ha).2⟩
theorem mapT_ex {α τ : Type} {P : τ → Prop} {x : α → Re τ} : ∀ {as : List α}, (∀ a ∈ as, ∃ b, x a = .ok b ∧ P b) → ∃ bs, mapT x as = .ok bs ∧ bs.length = as.length ∧ ∀ b ∈ bs, P b
  | [], _ => ⟨[], rfl, rfl, fun b hb => nomatch hb⟩
  | a :: as, h => by
    obtain ⟨b, e, p⟩ := h a List.mem_cons_self
    obtain ⟨bs, es, l, ps⟩ := mapT_ex fun c hc => h c (List.mem_cons_of_mem _ hc)
    exact ⟨b :: bs, by simp only [mapT, e, es, Re.bind_ok], by simp [l], fun c hc => by rcases List.mem_cons.mp hc with rfl | hc; exact p; exact ps c hc⟩
theorem forT_ex {α β : Type} {P : β → Prop} {B : List β → α → Re (List β)} : ∀ {as : List α} {acc : List β}, acc.length + as.length ≤ 1000 → (∀ a ∈ as, ∀ acc : List β, acc.length < 1000 → ∃ b, B acc a = .ok (acc ++ [b]) ∧ P b) → ∃ bs, forT B as acc = .ok (acc ++ bs) ∧ bs.length = as.length ∧ ∀ b ∈ bs, P b
  | [], acc, _, _ => ⟨[], by rw [List.append_nil]; rfl, rfl, fun b hb => nomatch hb⟩
  | a :: as, acc, hl, h => by
    simp only [List.length_cons] at hl
    obtain ⟨b, e, p⟩ := h a List.mem_cons_self acc (by omega)
    obtain ⟨bs, es, l, ps⟩ := forT_ex (acc := acc ++ [b]) (by rw [List.length_append]; simp; omega) fun c hc => h c (List.mem_cons_of_mem _ hc)
    exact ⟨b :: bs, by rw [forT_cons, e, Re.bind_ok, es, List.append_assoc]; rfl, by simp [l], fun c hc => by rcases List.mem_cons.mp hc with rfl | hc; exact p; exact ps c hc⟩
theorem ten_loop : ∀ (as : List Int) (x : Int), forT B1__law_ten as x = .ok (x * 10 ^ as.length)
  | [], x => by simp
  | a :: as, x => by
    have e : B1__law_ten x a = .ok (x * 10) := rfl
    rw [forT_cons, e, Re.bind_ok, ten_loop as, List.length_cons, Int.pow_succ, Int.mul_assoc, Int.mul_comm 10]
theorem ten_t {n : Nat} (h : n ≤ 100) : T__law_ten (n : Int) = .ok ((10 : Int) ^ n) := by
  have er : rngT 0 (n : Int) = .ok (rangeI 0 (n : Int)) := rngT_small (by omega) (by omega)
  have el : (rangeI 0 (n : Int)).length = n := by rw [rangeI_len]; omega
  unfold T__law_ten
  simp -implicitDefEqProofs only [Re.bind_ok, er, ten_loop, el, Int.one_mul]
theorem mulT_l {a b : Int} (h : -(2 ^ 64) < a ∧ a < 2 ^ 64) : mulT a b = .ok (a * b) := by unfold mulT; exact if_pos (.inl h)
theorem pow_le {m n : Nat} (h : m ≤ n) : (10 : Int) ^ m ≤ 10 ^ n := by
  have : (10 : Nat) ^ m ≤ 10 ^ n := Nat.pow_le_pow_right (by decide) h
  exact_mod_cast this
theorem pow_pos' (m : Nat) : (0 : Int) < 10 ^ m := by
  have : (0 : Nat) < 10 ^ m := Nat.pow_pos (by decide)
  exact_mod_cast this
theorem any_number_t {d : List Int} (hd : Small d) (hl : 3 ≤ d.length) : ∃ z, T__law_any_number d = .ok z ∧ z.natAbs < 10 ^ 60 := by
  obtain ⟨a0, e0, p0, q0⟩ := ix_row hd (z := 0) (by omega) (by omega)
  obtain ⟨a1, e1, p1, q1⟩ := ix_row hd (z := 1) (by omega) (by omega)
  obtain ⟨a2, e2, p2, q2⟩ := ix_row hd (z := 2) (by omega) (by omega)
  have key : ∀ s x : Int, -1 ≤ s → s ≤ 1 → 0 ≤ x → x < 10 ^ 60 → (s * x).natAbs < 10 ^ 60 := fun s x h1 h2 h3 h4 => by
    have hx : x.natAbs < 10 ^ 60 := by
      have : ((x.natAbs : Nat) : Int) < ((10 ^ 60 : Nat) : Int) := by
        rw [Int.natAbs_of_nonneg h3]
        exact_mod_cast h4
      exact_mod_cast this
    rw [Int.natAbs_mul]
    have hs : s.natAbs ≤ 1 := by omega
    calc s.natAbs * x.natAbs ≤ 1 * x.natAbs := Nat.mul_le_mul_right _ hs
      _ = x.natAbs := Nat.one_mul _
      _ < 10 ^ 60 := hx
  have t59 : T__law_ten (59 : Int) = .ok ((10 : Int) ^ 59) := ten_t (n := 59) (by decide)
  unfold T__law_any_number
  by_cases h : a2 % 29 = 28
  · have m1 : mulT (a0 % 3 - 1) ((10 : Int) ^ 59 + a1) = .ok ((a0 % 3 - 1) * ((10 : Int) ^ 59 + a1)) := mulT_l (by omega)
    refine ⟨(a0 % 3 - 1) * ((10 : Int) ^ 59 + a1), ?_, key _ _ (by omega) (by omega) (by have := pow_pos' 59; omega) ?_⟩
    · simp -implicitDefEqProofs only [e0, e1, e2, Re.bind_ok, h, decide_true, if_true, t59, m1]
    · have : (10 : Int) ^ 59 + 9967 < 10 ^ 60 := by decide +kernel
      omega
  · obtain ⟨n, hn⟩ := Int.eq_ofNat_of_zero_le (show 0 ≤ a2 % 56 by omega)
    have hn56 : n < 56 := by omega
    have tn : T__law_ten (a2 % 56) = .ok ((10 : Int) ^ n) := by rw [hn]; exact ten_t (by omega)
    have m1 : mulT a1 ((10 : Int) ^ n) = .ok (a1 * (10 : Int) ^ n) := mulT_l (by omega)
    have m2 : mulT (a0 % 3 - 1) (a1 * (10 : Int) ^ n + a0 % 10) = .ok ((a0 % 3 - 1) * (a1 * (10 : Int) ^ n + a0 % 10)) := mulT_l (by omega)
    have hp := pow_pos' n
    have hp2 := pow_le (m := n) (n := 55) (by omega)
    have b1 : 0 ≤ a1 * (10 : Int) ^ n := Int.mul_nonneg p1 (by omega)
    have b2 : a1 * (10 : Int) ^ n ≤ 9967 * 10 ^ 55 := Int.le_trans (Int.mul_le_mul_of_nonneg_right (by omega) (by omega)) (Int.mul_le_mul_of_nonneg_left hp2 (by omega))
    refine ⟨(a0 % 3 - 1) * (a1 * (10 : Int) ^ n + a0 % 10), ?_, key _ _ (by omega) (by omega) (by omega) ?_⟩
    · simp -implicitDefEqProofs only [e0, e1, e2, Re.bind_ok, h, decide_false, Bool.false_eq_true, if_false, tn, m1, m2]
    · have : (9967 : Int) * 10 ^ 55 + 10 < 10 ^ 60 := by decide +kernel
      omega
theorem small_drop {d : List Int} (hd : Small d) (n : Nat) : Small (d.drop n) := fun x hx => hd x (List.mem_of_mem_drop hx)
theorem any_call_t {d : List Int} (hd : Small d) (hl : 10 ≤ d.length) : ∃ c, T__law_any_call d = .ok c ∧ TxC c := by
  obtain ⟨a0, e0, p0, q0⟩ := ix_row hd (z := 0) (by omega) (by omega)
  have wk : ∃ (w : Str) (k : Nat), ixT ([("ring" : Str), ("chain" : Str), ("cross" : Str), ("pass" : Str), ("corner" : Str), ("cast" : Str), ("lead" : Str), ("stand" : Str)] : List Str) (a0 % 8) = .ok w ∧ ixT ([(3 : Int), (3 : Int), (1 : Int), (2 : Int), (2 : Int), (2 : Int), (2 : Int), (1 : Int)] : List Int) (a0 % 8) = .ok (k : Int) ∧ (w, k) ∈ wordsN ∧ k ≤ 3 := by
    have h8 : a0 % 8 = 0 ∨ a0 % 8 = 1 ∨ a0 % 8 = 2 ∨ a0 % 8 = 3 ∨ a0 % 8 = 4 ∨ a0 % 8 = 5 ∨ a0 % 8 = 6 ∨ a0 % 8 = 7 := by omega
    rcases h8 with h | h | h | h | h | h | h | h <;> rw [h]
    · exact ⟨"ring", 3, ixT_ok (i := 0) rfl rfl, ixT_ok (i := 0) rfl rfl, by simp [wordsN], by decide⟩
    · exact ⟨"chain", 3, ixT_ok (i := 1) rfl rfl, ixT_ok (i := 1) rfl rfl, by simp [wordsN], by decide⟩
    · exact ⟨"cross", 1, ixT_ok (i := 2) rfl rfl, ixT_ok (i := 2) rfl rfl, by simp [wordsN], by decide⟩
    · exact ⟨"pass", 2, ixT_ok (i := 3) rfl rfl, ixT_ok (i := 3) rfl rfl, by simp [wordsN], by decide⟩
    · exact ⟨"corner", 2, ixT_ok (i := 4) rfl rfl, ixT_ok (i := 4) rfl rfl, by simp [wordsN], by decide⟩
    · exact ⟨"cast", 2, ixT_ok (i := 5) rfl rfl, ixT_ok (i := 5) rfl rfl, by simp [wordsN], by decide⟩
    · exact ⟨"lead", 2, ixT_ok (i := 6) rfl rfl, ixT_ok (i := 6) rfl rfl, by simp [wordsN], by decide⟩
    · exact ⟨"stand", 1, ixT_ok (i := 7) rfl rfl, ixT_ok (i := 7) rfl rfl, by simp [wordsN], by decide⟩
  obtain ⟨w, k, ew, ek, hwk, hk3⟩ := wk
  have er : rngT 0 (k : Int) = .ok (rangeI 0 (k : Int)) := rngT_small (by omega) (by omega)
  obtain ⟨ns, m1, ml, mh⟩ := mapT_ex (P := fun z : Int => z.natAbs < 10 ^ 60) (x := fun v7 : Int => T__law_any_number (cut d (some ((1 : Int) + ((3 : Int) * v7))) none)) (as := rangeI 0 (k : Int)) fun v hv => by
    obtain ⟨g0, g1⟩ := mem_rangeI.mp hv
    obtain ⟨j, rfl⟩ := Int.eq_ofNat_of_zero_le g0
    have ec : cut d (some ((1 : Int) + (3 : Int) * (j : Int))) none = d.drop (1 + 3 * j) := by
      have := cut_from (xs := d) (n := 1 + 3 * j) (by omega)
      rw [show ((1 + 3 * j : Nat) : Int) = (1 : Int) + (3 : Int) * (j : Int) by omega] at this
      exact this
    rw [ec]
    exact any_number_t (small_drop hd _) (by simp; omega)
  have hnl : ns.length = k := by rw [ml, rangeI_len]; omega
  have m2 : lcM (.ok ns) = .ok ns := lcM_ok (by omega)
  have a1 : addclT (w, []) ns = .ok (w, [] ++ ns) := addcl_is (by simp; omega)
  refine ⟨(w, ns), ?_, ⟨by rw [hnl]; exact hwk, mh⟩⟩
  unfold T__law_any_call
  simp -implicitDefEqProofs only [e0, Re.bind_ok, ew, ek, er, m1, m2, a1]
  rfl
theorem any_figure_t {d : List Int} (hd : Small d) (hl : d.length = 100) : ∃ F, T__law_any_figure d = .ok F ∧ TxF F := by
  obtain ⟨a0, e0, p0, q0⟩ := ix_row hd (z := 0) (by omega) (by omega)
  obtain ⟨a1, e1, p1, q1⟩ := ix_row hd (z := 1) (by omega) (by omega)
  have er : rngT 0 (a0 % 4) = .ok (rangeI 0 (a0 % 4)) := rngT_small (by omega) (by omega)
  obtain ⟨F, f1, f2, f3⟩ := forT_ex (P := TxB) (B := B1__law_any_figure d) (as := rangeI 0 (a0 % 4)) (acc := []) (by rw [rangeI_len]; simp; omega) fun v hv acc ha => by
    obtain ⟨g0, g1⟩ := mem_rangeI.mp hv
    obtain ⟨i, rfl⟩ := Int.eq_ofNat_of_zero_le g0
    have dv : divT a1 ((3 : Int) + (i : Int)) = .ok (a1 / ((3 : Int) + (i : Int))) := divT_ok (by omega)
    generalize a1 / ((3 : Int) + (i : Int)) = u at dv
    have er2 : rngT 0 ((1 : Int) + u % 3) = .ok (rangeI 0 ((1 : Int) + u % 3)) := rngT_small (by omega) (by omega)
    obtain ⟨cs, c1, c2, c3⟩ := mapT_ex (P := TxC) (x := fun v18 : Int => T__law_any_call (cut d (some (((2 : Int) + ((30 : Int) * (i : Int))) + ((10 : Int) * v18))) none)) (as := rangeI 0 ((1 : Int) + u % 3)) fun w hw => by
      obtain ⟨h0, h1⟩ := mem_rangeI.mp hw
      obtain ⟨j, rfl⟩ := Int.eq_ofNat_of_zero_le h0
      have ec : cut d (some (((2 : Int) + (30 : Int) * (i : Int)) + (10 : Int) * (j : Int))) none = d.drop (2 + 30 * i + 10 * j) := by
        have := cut_from (xs := d) (n := 2 + 30 * i + 10 * j) (by omega)
        rw [show ((2 + 30 * i + 10 * j : Nat) : Int) = ((2 : Int) + (30 : Int) * (i : Int)) + (10 : Int) * (j : Int) by omega] at this
        exact this
      rw [ec]
      exact any_call_t (small_drop hd _) (by simp; omega)
    have cl : cs.length = 1 + (u % 3).toNat := by rw [c2, rangeI_len]; omega
    have m2 : lcM (.ok cs) = .ok cs := lcM_ok (by omega)
    refine ⟨cs, ?_, ⟨by omega, by omega, c3⟩⟩
    unfold B1__law_any_figure
    simp -implicitDefEqProofs only [e1, Re.bind_ok, dv, er2, c1, m2, appT_ok (show acc.length < 16777216 by omega)]
  have fl : F.length ≤ 3 := by rw [f2, rangeI_len]; omega
  refine ⟨F, ?_, ⟨by omega, f3⟩⟩
  unfold T__law_any_figure
  simp -implicitDefEqProofs only [e0, Re.bind_ok, er, f1, List.nil_append]
theorem turn_t {row : List Int} (hl : row.length = 600) (hs : Small row) {k : Nat} (hk : k < 6) : B1_law row () (k : Int) = .ok () := by
  have ec : cut row (some ((100 : Int) * (k : Int))) (some (((100 : Int) * (k : Int)) + (100 : Int))) = (row.drop (100 * k)).take 100 := by
    have := cut_ab (xs := row) (a := 100 * k) (b := 100 * k + 100) (by omega) (by omega)
    rw [show 100 * k + 100 - 100 * k = 100 by omega] at this
    have e1 : (100 : Int) * (k : Int) = ((100 * k : Nat) : Int) := by omega
    have e2 : (100 : Int) * (k : Int) + 100 = ((100 * k + 100 : Nat) : Int) := by omega
    rw [e2, e1]; exact this
  generalize hd : (row.drop (100 * k)).take 100 = d at ec
  have ld : d.length = 100 := by rw [← hd]; simp; omega
  have sd : Small d := fun x hx => by rw [← hd] at hx; exact hs x (List.mem_of_mem_drop (List.mem_of_mem_take hx))
  obtain ⟨F, eF, hF⟩ := any_figure_t sd ld
  have hl2 := hF.l2
  have l1 : lcP (F.map fun v : List (Str × List Int) => v) = .ok F := by rw [List.map_id']; exact lcP_ok (by omega)
  have c1 : T__law_copied F = .ok F := by
    unfold T__law_copied
    simp -implicitDefEqProofs only [Re.bind_ok, l1]
  have c2 : T__law_kept F = .ok F := by
    unfold T__law_kept
    simp -implicitDefEqProofs only [Re.bind_ok, l1]
  have t1 := law_figure_text_t hF
  have t2 := figure_text_t hF
  have t3 := figure_text_a_t hF
  have t4 := read_figure_t hF
  have ho := figT_ok hF
  generalize figT F = t at t1 t2 t3 t4 ho
  have s1 : sameT (eL eS) [t, t] [t, t] = .ok true := sameT_ok rfl (dsame_L (n := 10) (fun x hx => by
    simp only [List.mem_cons, List.not_mem_nil, or_false, or_self] at hx
    subst hx; exact ho) (by simp))
  have s2 : sameT (eL (eL eCl)) F F = .ok true := sameT_ok rfl (dsame_F hF)
  have lp2 : lcP [t, t] = .ok [t, t] := lcP_ok (by simp)
  have nq : nequT (eL (eL eCl)) F F = .ok false := by rw [nequT_ok (dok_Ft hF) (dok_Ft hF)]; simp
  unfold B1_law
  simp -implicitDefEqProofs only [ec, eF, c1, c2, t1, t2, t3, t4, Re.bind_ok, lp2, s1, Bool.not_true, Bool.false_eq_true, if_false, nq, s2]
theorem law_t (ns : List Int) (hl : ns.length ≤ 63) : T_law ns = .ok true := by
  obtain ⟨row, e, hr, hs⟩ := numbers_t ns hl 600 (by decide)
  have e : T__law_numbers ns 600 = .ok row := e
  have er : rngT 0 6 = .ok (rangeI 0 6) := rngT_small (by omega) (by omega)
  have elp : forT (B1_law row) (rangeI 0 6) () = .ok () := forT_unit fun a ha => by
    obtain ⟨h0, h1⟩ := mem_rangeI.mp ha
    obtain ⟨k, rfl⟩ := Int.eq_ofNat_of_zero_le h0
    exact turn_t hr hs (by omega)
  have E : TxF [] := ⟨by simp, fun b hb => nomatch hb⟩
  have t2 : T_figure_text [] = .ok ("-" : Str) := figure_text_t E
  have t4 : T_read_figure ("-" : Str) = .ok [] := read_figure_t E
  have s1 : sameT eS ("-" : Str) "-" = .ok true := sameT_ok rfl (show dsame 11 (.s "-") = true from dash_ok)
  have s2 : sameT (eL (eL eCl)) ([] : List (List (Str × List Int))) [] = .ok true := sameT_ok rfl (dsame_F E)
  unfold T_law
  simp -implicitDefEqProofs only [e, er, elp, Re.bind_ok, t2, t4, s1, s2, if_true]
theorem law_true (ns : List Int) (hl : ns.length ≤ 63) : F_law [.z (ns.map .i)] = .ok (.sh (.b true)) := re_true (t_law ns) (law_t ns hl)
end C
end

namespace C
set_option maxRecDepth 100000
set_option maxHeartbeats 4000000
open PySem PySem.Spec L2 Ly
open PyProof.Rows hiding St
theorem all_mk {P : Program} {w : World} {K : PySem.W.Frag} {h : Heap} {mg : Str → Option Value} {fa : Addr} (X : K.In h) (G : h.Ns mainGlobals mg) (hfa : mg "law" = some (.ref fa))
    (zb_all : PySem.W.nsIn K mainGlobals "all" = some none)
    (zb_bool : PySem.W.nsIn K mainGlobals "bool" = some none)
    (zb_int : PySem.W.nsIn K mainGlobals "int" = some none)
    (zb_isinstance : PySem.W.nsIn K mainGlobals "isinstance" = some none)
    (zb_len : PySem.W.nsIn K mainGlobals "len" = some none)
    (zb_list : PySem.W.nsIn K mainGlobals "list" = some none)
    (zb_range : PySem.W.nsIn K mainGlobals "range" = some none)
    (zb_str : PySem.W.nsIn K mainGlobals "str" = some none)
    (zb_tuple : PySem.W.nsIn K mainGlobals "tuple" = some none)
    {t_FIGURES : Tok}
    (zc_FIGURES : PySem.W.nsIn K mainGlobals "FIGURES" = some (some (.str "0123456789" t_FIGURES)))
    {t_MOST_FIGURES : Tok}
    (zc_MOST_FIGURES : PySem.W.nsIn K mainGlobals "MOST_FIGURES" = some (some (.int 60 t_MOST_FIGURES)))
    {A_SIZES : Addr} {n_SIZES : Nat} {tk0_SIZES tv0_SIZES tk1_SIZES tv1_SIZES tk2_SIZES tv2_SIZES tk3_SIZES tv3_SIZES tk4_SIZES tv4_SIZES tk5_SIZES tv5_SIZES tk6_SIZES tv6_SIZES tk7_SIZES tv7_SIZES : Tok}
    (zw1_SIZES : PySem.W.nsIn K mainGlobals "SIZES" = some (some (.ref A_SIZES)))
    (zw3_SIZES : (A_SIZES == sysModules) = false)
    (zw2_SIZES : K.lookup A_SIZES = some ⟨.type "dict", none, .dict (List.toArray [⟨PyData.keyHash w.params "ring", .str "ring" tk0_SIZES, .int 4 tv0_SIZES⟩, ⟨PyData.keyHash w.params "chain", .str "chain" tk1_SIZES, .int 4 tv1_SIZES⟩, ⟨PyData.keyHash w.params "cross", .str "cross" tk2_SIZES, .int 2 tv2_SIZES⟩, ⟨PyData.keyHash w.params "pass", .str "pass" tk3_SIZES, .int 3 tv3_SIZES⟩, ⟨PyData.keyHash w.params "corner", .str "corner" tk4_SIZES, .int 3 tv4_SIZES⟩, ⟨PyData.keyHash w.params "cast", .str "cast" tk5_SIZES, .int 3 tv5_SIZES⟩, ⟨PyData.keyHash w.params "lead", .str "lead" tk6_SIZES, .int 3 tv6_SIZES⟩, ⟨PyData.keyHash w.params "stand", .str "stand" tk7_SIZES, .int 2 tv7_SIZES⟩]) n_SIZES, #[]⟩)
    {A_figure_text : Addr} {oc_figure_text kV_figure_text dc_figure_text pm_figure_text cd_figure_text ct_figure_text : Value} {od_figure_text an_figure_text : Option Addr} {sl_figure_text : Array (Option Value)}
    (z1_figure_text : PySem.W.nsIn K mainGlobals "figure_text" = some (some (.ref A_figure_text)))
    (z2_figure_text : K.lookup A_figure_text = some ⟨oc_figure_text, od_figure_text, .func (PySem.W.fnOf "figure_text" "figure_text" (defArgs (top 7)) (defBody (top 7)) (defScope (top 7)) .none kV_figure_text dc_figure_text pm_figure_text an_figure_text cd_figure_text ct_figure_text), sl_figure_text⟩)
    (z3_figure_text : PySem.W.codeIn K cd_figure_text "figure_text" = true)
    (z4_figure_text : PySem.W.keepIn K (.ref A_figure_text) = true)
    {A_number_in : Addr} {oc_number_in kV_number_in dc_number_in pm_number_in cd_number_in ct_number_in : Value} {od_number_in an_number_in : Option Addr} {sl_number_in : Array (Option Value)}
    (z1_number_in : PySem.W.nsIn K mainGlobals "number_in" = some (some (.ref A_number_in)))
    (z2_number_in : K.lookup A_number_in = some ⟨oc_number_in, od_number_in, .func (PySem.W.fnOf "number_in" "number_in" (defArgs (top 8)) (defBody (top 8)) (defScope (top 8)) .none kV_number_in dc_number_in pm_number_in an_number_in cd_number_in ct_number_in), sl_number_in⟩)
    (z3_number_in : PySem.W.codeIn K cd_number_in "number_in" = true)
    (z4_number_in : PySem.W.keepIn K (.ref A_number_in) = true)
    {A_call_in : Addr} {oc_call_in kV_call_in dc_call_in pm_call_in cd_call_in ct_call_in : Value} {od_call_in an_call_in : Option Addr} {sl_call_in : Array (Option Value)}
    (z1_call_in : PySem.W.nsIn K mainGlobals "call_in" = some (some (.ref A_call_in)))
    (z2_call_in : K.lookup A_call_in = some ⟨oc_call_in, od_call_in, .func (PySem.W.fnOf "call_in" "call_in" (defArgs (top 9)) (defBody (top 9)) (defScope (top 9)) .none kV_call_in dc_call_in pm_call_in an_call_in cd_call_in ct_call_in), sl_call_in⟩)
    (z3_call_in : PySem.W.codeIn K cd_call_in "call_in" = true)
    (z4_call_in : PySem.W.keepIn K (.ref A_call_in) = true)
    {A_read_figure : Addr} {oc_read_figure kV_read_figure dc_read_figure pm_read_figure cd_read_figure ct_read_figure : Value} {od_read_figure an_read_figure : Option Addr} {sl_read_figure : Array (Option Value)}
    (z1_read_figure : PySem.W.nsIn K mainGlobals "read_figure" = some (some (.ref A_read_figure)))
    (z2_read_figure : K.lookup A_read_figure = some ⟨oc_read_figure, od_read_figure, .func (PySem.W.fnOf "read_figure" "read_figure" (defArgs (top 10)) (defBody (top 10)) (defScope (top 10)) .none kV_read_figure dc_read_figure pm_read_figure an_read_figure cd_read_figure ct_read_figure), sl_read_figure⟩)
    (z3_read_figure : PySem.W.codeIn K cd_read_figure "read_figure" = true)
    (z4_read_figure : PySem.W.keepIn K (.ref A_read_figure) = true)
    {A__law_numbers : Addr} {oc__law_numbers kV__law_numbers dc__law_numbers pm__law_numbers cd__law_numbers ct__law_numbers : Value} {od__law_numbers an__law_numbers : Option Addr} {sl__law_numbers : Array (Option Value)}
    (z1__law_numbers : PySem.W.nsIn K mainGlobals "_law_numbers" = some (some (.ref A__law_numbers)))
    (z2__law_numbers : K.lookup A__law_numbers = some ⟨oc__law_numbers, od__law_numbers, .func (PySem.W.fnOf "_law_numbers" "_law_numbers" (defArgs (top 12)) (defBody (top 12)) (defScope (top 12)) .none kV__law_numbers dc__law_numbers pm__law_numbers an__law_numbers cd__law_numbers ct__law_numbers), sl__law_numbers⟩)
    (z3__law_numbers : PySem.W.codeIn K cd__law_numbers "_law_numbers" = true)
    (z4__law_numbers : PySem.W.keepIn K (.ref A__law_numbers) = true)
    {A__law_same : Addr} {oc__law_same kV__law_same dc__law_same pm__law_same cd__law_same ct__law_same : Value} {od__law_same an__law_same : Option Addr} {sl__law_same : Array (Option Value)}
    (z1__law_same : PySem.W.nsIn K mainGlobals "_law_same" = some (some (.ref A__law_same)))
    (z2__law_same : K.lookup A__law_same = some ⟨oc__law_same, od__law_same, .func (PySem.W.fnOf "_law_same" "_law_same" (defArgs (top 13)) (defBody (top 13)) (defScope (top 13)) .none kV__law_same dc__law_same pm__law_same an__law_same cd__law_same ct__law_same), sl__law_same⟩)
    (z3__law_same : PySem.W.codeIn K cd__law_same "_law_same" = true)
    (z4__law_same : PySem.W.keepIn K (.ref A__law_same) = true)
    {A__law_ten : Addr} {oc__law_ten kV__law_ten dc__law_ten pm__law_ten cd__law_ten ct__law_ten : Value} {od__law_ten an__law_ten : Option Addr} {sl__law_ten : Array (Option Value)}
    (z1__law_ten : PySem.W.nsIn K mainGlobals "_law_ten" = some (some (.ref A__law_ten)))
    (z2__law_ten : K.lookup A__law_ten = some ⟨oc__law_ten, od__law_ten, .func (PySem.W.fnOf "_law_ten" "_law_ten" (defArgs (top 14)) (defBody (top 14)) (defScope (top 14)) .none kV__law_ten dc__law_ten pm__law_ten an__law_ten cd__law_ten ct__law_ten), sl__law_ten⟩)
    (z3__law_ten : PySem.W.codeIn K cd__law_ten "_law_ten" = true)
    (z4__law_ten : PySem.W.keepIn K (.ref A__law_ten) = true)
    {A__law_copied : Addr} {oc__law_copied kV__law_copied dc__law_copied pm__law_copied cd__law_copied ct__law_copied : Value} {od__law_copied an__law_copied : Option Addr} {sl__law_copied : Array (Option Value)}
    (z1__law_copied : PySem.W.nsIn K mainGlobals "_law_copied" = some (some (.ref A__law_copied)))
    (z2__law_copied : K.lookup A__law_copied = some ⟨oc__law_copied, od__law_copied, .func (PySem.W.fnOf "_law_copied" "_law_copied" (defArgs (top 15)) (defBody (top 15)) (defScope (top 15)) .none kV__law_copied dc__law_copied pm__law_copied an__law_copied cd__law_copied ct__law_copied), sl__law_copied⟩)
    (z3__law_copied : PySem.W.codeIn K cd__law_copied "_law_copied" = true)
    (z4__law_copied : PySem.W.keepIn K (.ref A__law_copied) = true)
    {A__law_kept : Addr} {oc__law_kept kV__law_kept dc__law_kept pm__law_kept cd__law_kept ct__law_kept : Value} {od__law_kept an__law_kept : Option Addr} {sl__law_kept : Array (Option Value)}
    (z1__law_kept : PySem.W.nsIn K mainGlobals "_law_kept" = some (some (.ref A__law_kept)))
    (z2__law_kept : K.lookup A__law_kept = some ⟨oc__law_kept, od__law_kept, .func (PySem.W.fnOf "_law_kept" "_law_kept" (defArgs (top 16)) (defBody (top 16)) (defScope (top 16)) .none kV__law_kept dc__law_kept pm__law_kept an__law_kept cd__law_kept ct__law_kept), sl__law_kept⟩)
    (z3__law_kept : PySem.W.codeIn K cd__law_kept "_law_kept" = true)
    (z4__law_kept : PySem.W.keepIn K (.ref A__law_kept) = true)
    {A__law_call_text : Addr} {oc__law_call_text kV__law_call_text dc__law_call_text pm__law_call_text cd__law_call_text ct__law_call_text : Value} {od__law_call_text an__law_call_text : Option Addr} {sl__law_call_text : Array (Option Value)}
    (z1__law_call_text : PySem.W.nsIn K mainGlobals "_law_call_text" = some (some (.ref A__law_call_text)))
    (z2__law_call_text : K.lookup A__law_call_text = some ⟨oc__law_call_text, od__law_call_text, .func (PySem.W.fnOf "_law_call_text" "_law_call_text" (defArgs (top 17)) (defBody (top 17)) (defScope (top 17)) .none kV__law_call_text dc__law_call_text pm__law_call_text an__law_call_text cd__law_call_text ct__law_call_text), sl__law_call_text⟩)
    (z3__law_call_text : PySem.W.codeIn K cd__law_call_text "_law_call_text" = true)
    (z4__law_call_text : PySem.W.keepIn K (.ref A__law_call_text) = true)
    {A__law_figure_text : Addr} {oc__law_figure_text kV__law_figure_text dc__law_figure_text pm__law_figure_text cd__law_figure_text ct__law_figure_text : Value} {od__law_figure_text an__law_figure_text : Option Addr} {sl__law_figure_text : Array (Option Value)}
    (z1__law_figure_text : PySem.W.nsIn K mainGlobals "_law_figure_text" = some (some (.ref A__law_figure_text)))
    (z2__law_figure_text : K.lookup A__law_figure_text = some ⟨oc__law_figure_text, od__law_figure_text, .func (PySem.W.fnOf "_law_figure_text" "_law_figure_text" (defArgs (top 18)) (defBody (top 18)) (defScope (top 18)) .none kV__law_figure_text dc__law_figure_text pm__law_figure_text an__law_figure_text cd__law_figure_text ct__law_figure_text), sl__law_figure_text⟩)
    (z3__law_figure_text : PySem.W.codeIn K cd__law_figure_text "_law_figure_text" = true)
    (z4__law_figure_text : PySem.W.keepIn K (.ref A__law_figure_text) = true)
    {A__law_any_number : Addr} {oc__law_any_number kV__law_any_number dc__law_any_number pm__law_any_number cd__law_any_number ct__law_any_number : Value} {od__law_any_number an__law_any_number : Option Addr} {sl__law_any_number : Array (Option Value)}
    (z1__law_any_number : PySem.W.nsIn K mainGlobals "_law_any_number" = some (some (.ref A__law_any_number)))
    (z2__law_any_number : K.lookup A__law_any_number = some ⟨oc__law_any_number, od__law_any_number, .func (PySem.W.fnOf "_law_any_number" "_law_any_number" (defArgs (top 19)) (defBody (top 19)) (defScope (top 19)) .none kV__law_any_number dc__law_any_number pm__law_any_number an__law_any_number cd__law_any_number ct__law_any_number), sl__law_any_number⟩)
    (z3__law_any_number : PySem.W.codeIn K cd__law_any_number "_law_any_number" = true)
    (z4__law_any_number : PySem.W.keepIn K (.ref A__law_any_number) = true)
    {A__law_any_call : Addr} {oc__law_any_call kV__law_any_call dc__law_any_call pm__law_any_call cd__law_any_call ct__law_any_call : Value} {od__law_any_call an__law_any_call : Option Addr} {sl__law_any_call : Array (Option Value)}
    (z1__law_any_call : PySem.W.nsIn K mainGlobals "_law_any_call" = some (some (.ref A__law_any_call)))
    (z2__law_any_call : K.lookup A__law_any_call = some ⟨oc__law_any_call, od__law_any_call, .func (PySem.W.fnOf "_law_any_call" "_law_any_call" (defArgs (top 20)) (defBody (top 20)) (defScope (top 20)) .none kV__law_any_call dc__law_any_call pm__law_any_call an__law_any_call cd__law_any_call ct__law_any_call), sl__law_any_call⟩)
    (z3__law_any_call : PySem.W.codeIn K cd__law_any_call "_law_any_call" = true)
    (z4__law_any_call : PySem.W.keepIn K (.ref A__law_any_call) = true)
    {A__law_any_figure : Addr} {oc__law_any_figure kV__law_any_figure dc__law_any_figure pm__law_any_figure cd__law_any_figure ct__law_any_figure : Value} {od__law_any_figure an__law_any_figure : Option Addr} {sl__law_any_figure : Array (Option Value)}
    (z1__law_any_figure : PySem.W.nsIn K mainGlobals "_law_any_figure" = some (some (.ref A__law_any_figure)))
    (z2__law_any_figure : K.lookup A__law_any_figure = some ⟨oc__law_any_figure, od__law_any_figure, .func (PySem.W.fnOf "_law_any_figure" "_law_any_figure" (defArgs (top 21)) (defBody (top 21)) (defScope (top 21)) .none kV__law_any_figure dc__law_any_figure pm__law_any_figure an__law_any_figure cd__law_any_figure ct__law_any_figure), sl__law_any_figure⟩)
    (z3__law_any_figure : PySem.W.codeIn K cd__law_any_figure "_law_any_figure" = true)
    (z4__law_any_figure : PySem.W.keepIn K (.ref A__law_any_figure) = true)
    {A_law : Addr} {oc_law kV_law dc_law pm_law cd_law ct_law : Value} {od_law an_law : Option Addr} {sl_law : Array (Option Value)}
    (z1_law : PySem.W.nsIn K mainGlobals "law" = some (some (.ref A_law)))
    (z2_law : K.lookup A_law = some ⟨oc_law, od_law, .func (PySem.W.fnOf "law" "law" (defArgs (top 22)) (defBody (top 22)) (defScope (top 22)) .none kV_law dc_law pm_law an_law cd_law ct_law), sl_law⟩)
    (z3_law : PySem.W.codeIn K cd_law "law" = true)
    (z4_law : PySem.W.keepIn K (.ref A_law) = true)
    : ∃ fd : FuncData, (∀ (s : Shared) (v : Value), BindsTo s fd ⟨[v], []⟩ [("_law_script", v)]) ∧ ∀ base : Heap, K.In base → base.Ns mainGlobals mg → FnOk P w K mg base (L2N.CX P w) 14 fa fd ["_law_script"] (spF K mg 1 F_law) := by
  have e := hfa.symm.trans (PySem.W.mg_of X G z1_law)
  cases e
  have F_figure_text := fun_mk (st := top 7) z2_figure_text z3_figure_text z4_figure_text
  have B_figure_text := F_figure_text.binds (ps := ["figure"]) fun _ _ _ _ _ _ us hl => match us, hl with | [_], _ => rfl
  have F_number_in := fun_mk (st := top 8) z2_number_in z3_number_in z4_number_in
  have B_number_in := F_number_in.binds (ps := ["word"]) fun _ _ _ _ _ _ us hl => match us, hl with | [_], _ => rfl
  have F_call_in := fun_mk (st := top 9) z2_call_in z3_call_in z4_call_in
  have B_call_in := F_call_in.binds (ps := ["word"]) fun _ _ _ _ _ _ us hl => match us, hl with | [_], _ => rfl
  have F_read_figure := fun_mk (st := top 10) z2_read_figure z3_read_figure z4_read_figure
  have B_read_figure := F_read_figure.binds (ps := ["text"]) fun _ _ _ _ _ _ us hl => match us, hl with | [_], _ => rfl
  have F__law_numbers := fun_mk (st := top 12) z2__law_numbers z3__law_numbers z4__law_numbers
  have B__law_numbers := F__law_numbers.binds (ps := ["_law_script", "_law_many"]) fun _ _ _ _ _ _ us hl => match us, hl with | [_, _], _ => rfl
  have F__law_same := fun_mk (st := top 13) z2__law_same z3__law_same z4__law_same
  have B__law_same := F__law_same.binds (ps := ["_law_found", "_law_due"]) fun _ _ _ _ _ _ us hl => match us, hl with | [_, _], _ => rfl
  have F__law_ten := fun_mk (st := top 14) z2__law_ten z3__law_ten z4__law_ten
  have B__law_ten := F__law_ten.binds (ps := ["_law_number"]) fun _ _ _ _ _ _ us hl => match us, hl with | [_], _ => rfl
  have F__law_copied := fun_mk (st := top 15) z2__law_copied z3__law_copied z4__law_copied
  have B__law_copied := F__law_copied.binds (ps := ["_law_figure"]) fun _ _ _ _ _ _ us hl => match us, hl with | [_], _ => rfl
  have F__law_kept := fun_mk (st := top 16) z2__law_kept z3__law_kept z4__law_kept
  have B__law_kept := F__law_kept.binds (ps := ["_law_figure"]) fun _ _ _ _ _ _ us hl => match us, hl with | [_], _ => rfl
  have F__law_call_text := fun_mk (st := top 17) z2__law_call_text z3__law_call_text z4__law_call_text
  have B__law_call_text := F__law_call_text.binds (ps := ["_law_call"]) fun _ _ _ _ _ _ us hl => match us, hl with | [_], _ => rfl
  have F__law_figure_text := fun_mk (st := top 18) z2__law_figure_text z3__law_figure_text z4__law_figure_text
  have B__law_figure_text := F__law_figure_text.binds (ps := ["_law_figure"]) fun _ _ _ _ _ _ us hl => match us, hl with | [_], _ => rfl
  have F__law_any_number := fun_mk (st := top 19) z2__law_any_number z3__law_any_number z4__law_any_number
  have B__law_any_number := F__law_any_number.binds (ps := ["_law_d"]) fun _ _ _ _ _ _ us hl => match us, hl with | [_], _ => rfl
  have F__law_any_call := fun_mk (st := top 20) z2__law_any_call z3__law_any_call z4__law_any_call
  have B__law_any_call := F__law_any_call.binds (ps := ["_law_d"]) fun _ _ _ _ _ _ us hl => match us, hl with | [_], _ => rfl
  have F__law_any_figure := fun_mk (st := top 21) z2__law_any_figure z3__law_any_figure z4__law_any_figure
  have B__law_any_figure := F__law_any_figure.binds (ps := ["_law_d"]) fun _ _ _ _ _ _ us hl => match us, hl with | [_], _ => rfl
  have F_law := fun_mk (st := top 22) z2_law z3_law z4_law
  have T : Tx w K mg := {
    b_all := PySem.W.mg_none_of X G zb_all,
    b_bool := PySem.W.mg_none_of X G zb_bool,
    b_int := PySem.W.mg_none_of X G zb_int,
    b_isinstance := PySem.W.mg_none_of X G zb_isinstance,
    b_len := PySem.W.mg_none_of X G zb_len,
    b_list := PySem.W.mg_none_of X G zb_list,
    b_range := PySem.W.mg_none_of X G zb_range,
    b_str := PySem.W.mg_none_of X G zb_str,
    b_tuple := PySem.W.mg_none_of X G zb_tuple,
    c_FIGURES := ⟨_, PySem.W.mg_of X G zc_FIGURES⟩,
    c_MOST_FIGURES := ⟨_, PySem.W.mg_of X G zc_MOST_FIGURES⟩,
    w_SIZES := wd_mk w_SIZES [(tk0_SIZES, tv0_SIZES), (tk1_SIZES, tv1_SIZES), (tk2_SIZES, tv2_SIZES), (tk3_SIZES, tv3_SIZES), (tk4_SIZES, tv4_SIZES), (tk5_SIZES, tv5_SIZES), (tk6_SIZES, tv6_SIZES), (tk7_SIZES, tv7_SIZES)] rfl (PySem.W.mg_of X G zw1_SIZES) zw3_SIZES zw2_SIZES,
    f_figure_text := ⟨A_figure_text, _, PySem.W.mg_of X G z1_figure_text, F_figure_text, B_figure_text⟩,
    f_number_in := ⟨A_number_in, _, PySem.W.mg_of X G z1_number_in, F_number_in, B_number_in⟩,
    f_call_in := ⟨A_call_in, _, PySem.W.mg_of X G z1_call_in, F_call_in, B_call_in⟩,
    f_read_figure := ⟨A_read_figure, _, PySem.W.mg_of X G z1_read_figure, F_read_figure, B_read_figure⟩,
    f__law_numbers := ⟨A__law_numbers, _, PySem.W.mg_of X G z1__law_numbers, F__law_numbers, B__law_numbers⟩,
    f__law_same := ⟨A__law_same, _, PySem.W.mg_of X G z1__law_same, F__law_same, B__law_same⟩,
    f__law_ten := ⟨A__law_ten, _, PySem.W.mg_of X G z1__law_ten, F__law_ten, B__law_ten⟩,
    f__law_copied := ⟨A__law_copied, _, PySem.W.mg_of X G z1__law_copied, F__law_copied, B__law_copied⟩,
    f__law_kept := ⟨A__law_kept, _, PySem.W.mg_of X G z1__law_kept, F__law_kept, B__law_kept⟩,
    f__law_call_text := ⟨A__law_call_text, _, PySem.W.mg_of X G z1__law_call_text, F__law_call_text, B__law_call_text⟩,
    f__law_figure_text := ⟨A__law_figure_text, _, PySem.W.mg_of X G z1__law_figure_text, F__law_figure_text, B__law_figure_text⟩,
    f__law_any_number := ⟨A__law_any_number, _, PySem.W.mg_of X G z1__law_any_number, F__law_any_number, B__law_any_number⟩,
    f__law_any_call := ⟨A__law_any_call, _, PySem.W.mg_of X G z1__law_any_call, F__law_any_call, B__law_any_call⟩,
    f__law_any_figure := ⟨A__law_any_figure, _, PySem.W.mg_of X G z1__law_any_figure, F__law_any_figure, B__law_any_figure⟩ }
  exact ⟨_, fun s v => .of_eq rfl, fun base _ _ => fn_law T F_law⟩
theorem walk {l : PySem.W.OpenLaw} {q : Program} {loose : List Str} {XP : (Str → Option Value) → Heap → Prop} {YP : World → Heap → Prop} {d : DefRec} {K : Params → PySem.W.Frag} (hn : l.most = some 63) (hdf : d.params.defaults = [])
    (hY : ∀ (w : World) (h : Heap), YP w h → (K w.params).In h)
    (F : ∀ (w : World) (mg : Str → Option Value) (fa : Addr) (h : Heap), (K w.params).In h → h.Ns mainGlobals mg → mg d.name = some (.ref fa) →
      ∃ fd : FuncData, (∀ (s : Shared) (u : Value), BindsTo s fd ⟨[u], []⟩ [("_law_script", u)]) ∧ ∀ base : Heap, (K w.params).In base → base.Ns mainGlobals mg → FnOk l.prog w (K w.params) mg base (L2N.CX l.prog w) 14 fa fd ["_law_script"] (spF (K w.params) mg 1 F_law)) :
    PySem.W.WalkO q loose XP YP l.row.toRowW d [] (fun f vs => PySem.call f vs) := Ly.walk_law hn hdf ⟨rfl, by decide, by decide⟩ hY F law_true

end C

open PySem PySem.W PyProof.Rows
set_option maxRecDepth 100000 in
set_option maxHeartbeats 0 in
theorem PySem.Challenge.cw_longways_k45_figures_written_holds : PySem.Challenge.rw_longways_k45_figures_written.Holds := by
  w_on; o_law; k_head; (case hw => w_witness2)
  k_fill
  refine C.walk (l := PySem.Challenge.rw_longways_k45_figures_written) rfl rfl (fun w h Y => PySem.W.kIn_of Y) ?F
  case F =>
    intro w mg fa h KX G hmg
    refine' C.all_mk KX G hmg ?zb_all ?zb_bool ?zb_int ?zb_isinstance ?zb_len ?zb_list ?zb_range ?zb_str ?zb_tuple ?zc_FIGURES ?zc_MOST_FIGURES ?zw1_SIZES ?zw3_SIZES ?zw2_SIZES ?z1_figure_text ?z2_figure_text ?z3_figure_text ?z4_figure_text ?z1_number_in ?z2_number_in ?z3_number_in ?z4_number_in ?z1_call_in ?z2_call_in ?z3_call_in ?z4_call_in ?z1_read_figure ?z2_read_figure ?z3_read_figure ?z4_read_figure ?z1__law_numbers ?z2__law_numbers ?z3__law_numbers ?z4__law_numbers ?z1__law_same ?z2__law_same ?z3__law_same ?z4__law_same ?z1__law_ten ?z2__law_ten ?z3__law_ten ?z4__law_ten ?z1__law_copied ?z2__law_copied ?z3__law_copied ?z4__law_copied ?z1__law_kept ?z2__law_kept ?z3__law_kept ?z4__law_kept ?z1__law_call_text ?z2__law_call_text ?z3__law_call_text ?z4__law_call_text ?z1__law_figure_text ?z2__law_figure_text ?z3__law_figure_text ?z4__law_figure_text ?z1__law_any_number ?z2__law_any_number ?z3__law_any_number ?z4__law_any_number ?z1__law_any_call ?z2__law_any_call ?z3__law_any_call ?z4__law_any_call ?z1__law_any_figure ?z2__law_any_figure ?z3__law_any_figure ?z4__law_any_figure ?z1_law ?z2_law ?z3_law ?z4_law
    (case zb_all => k_is)
    (case zb_bool => k_is)
    (case zb_int => k_is)
    (case zb_isinstance => k_is)
    (case zb_len => k_is)
    (case zb_list => k_is)
    (case zb_range => k_is)
    (case zb_str => k_is)
    (case zb_tuple => k_is)
    (case zc_FIGURES => k_is)
    (case zc_MOST_FIGURES => k_is)
    (case zw1_SIZES => k_is)
    (case zw3_SIZES => decide)
    (case zw2_SIZES => k_is)
    (case z1_figure_text => k_is)
    (case z2_figure_text => k_is)
    (case z3_figure_text => k_is)
    (case z4_figure_text => k_is)
    (case z1_number_in => k_is)
    (case z2_number_in => k_is)
    (case z3_number_in => k_is)
    (case z4_number_in => k_is)
    (case z1_call_in => k_is)
    (case z2_call_in => k_is)
    (case z3_call_in => k_is)
    (case z4_call_in => k_is)
    (case z1_read_figure => k_is)
    (case z2_read_figure => k_is)
    (case z3_read_figure => k_is)
    (case z4_read_figure => k_is)
    (case z1__law_numbers => k_is)
    (case z2__law_numbers => k_is)
    (case z3__law_numbers => k_is)
    (case z4__law_numbers => k_is)
    (case z1__law_same => k_is)
    (case z2__law_same => k_is)
    (case z3__law_same => k_is)
    (case z4__law_same => k_is)
    (case z1__law_ten => k_is)
    (case z2__law_ten => k_is)
    (case z3__law_ten => k_is)
    (case z4__law_ten => k_is)
    (case z1__law_copied => k_is)
    (case z2__law_copied => k_is)
    (case z3__law_copied => k_is)
    (case z4__law_copied => k_is)
    (case z1__law_kept => k_is)
    (case z2__law_kept => k_is)
    (case z3__law_kept => k_is)
    (case z4__law_kept => k_is)
    (case z1__law_call_text => k_is)
    (case z2__law_call_text => k_is)
    (case z3__law_call_text => k_is)
    (case z4__law_call_text => k_is)
    (case z1__law_figure_text => k_is)
    (case z2__law_figure_text => k_is)
    (case z3__law_figure_text => k_is)
    (case z4__law_figure_text => k_is)
    (case z1__law_any_number => k_is)
    (case z2__law_any_number => k_is)
    (case z3__law_any_number => k_is)
    (case z4__law_any_number => k_is)
    (case z1__law_any_call => k_is)
    (case z2__law_any_call => k_is)
    (case z3__law_any_call => k_is)
    (case z4__law_any_call => k_is)
    (case z1__law_any_figure => k_is)
    (case z2__law_any_figure => k_is)
    (case z3__law_any_figure => k_is)
    (case z4__law_any_figure => k_is)
    (case z1_law => k_is)
    (case z2_law => k_is)
    (case z3_law => k_is)
    (case z4_law => k_is)
