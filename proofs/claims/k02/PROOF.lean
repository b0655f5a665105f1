import PyProof.Rows.All
import Wide.All
import OpenK.AllK
import Wide.FinOn
import HandS.ForMost
import HandS.ExcCtx
import HandS.ForExc
import HandS.TryMany
import HandS.ExcField
import HandS.ExcIs
import HandS.Lambda
import HandS.TupAny
import HandS.SortInts
import HandS.Style
import HandS.Flow
import HandS.Conv
import HandS.Deep
import HandS.RaiseMore
import HandS.More
import HandS.IsInst
import HandS.Defaults
import HandS.MakeKw
import HandS.Iter
import HandS.SortKw
import KE.GoesEnumKw
import PyProof.ZipIter
import HandS.Zip
import HandS.TupLen
import HandS.HotCalls
import HandS.EndTab
import HandS.NestedK
import KE.KNestM
import PyProof.LongRange
import PyProof.ListRange
import PySem.Challenge.RW_longways_k02_ways_done_and_undone
set_option Elab.async false
set_option linter.all false
section
set_option maxRecDepth 100000
namespace Ly
open PySem PySem.Spec L2
open PyProof.Rows hiding St

inductive D where
  | n | b (x : Bool) | i (z : Int) | s (x : Str) | o (a : Addr)
  | l (xs : List D) | t (xs : List D) | z (xs : List D) | zt (xs : List D)
  | dk (ks : List Key) (ds : List D) | dt (ks : List (List Key)) (ds : List D)

mutual
inductive Rep (K : PySem.W.Frag) (G : Hp) : V → D → Prop
  | n : Rep K G .non .n
  | b (x : Bool) : Rep K G (.bl x) (.b x)
  | i (z : Int) : Rep K G (.int z) (.i z)
  | s (x : Str) : Rep K G (.str x) (.s x)
  | o (a : Addr) : Rep K G (.ref a) (.o a)
  | l {a : Addr} {xs : List V} {ds : List D} : G a = some (.lst xs) → Reps K G xs ds → Rep K G (.ref a) (.l ds)
  | z {a : Addr} {xs : List V} {ds : List D} : SqL K G a xs → Reps K G xs ds → Rep K G (.ref a) (.z ds)
  | t {a : Addr} {xs : List V} {ds : List D} : G a = some (.tup xs) → Reps K G xs ds → Rep K G (.ref a) (.t ds)
  | zt {a : Addr} {xs : List V} {ds : List D} : SqT K G a xs → Reps K G xs ds → Rep K G (.ref a) (.zt ds)
  | dk {a : Addr} {kvs : List (Key × V)} {ks : List Key} {ds : List D} : Rd G a (.dK kvs) → ks = kvs.map (·.1) → Reps K G (kvs.map (·.2)) ds → Rep K G (.ref a) (.dk ks ds)
  | dt {a : Addr} {kvs : List (List Key × V)} {ks : List (List Key)} {ds : List D} : Rd G a (.dT kvs) → ks = kvs.map (·.1) → Reps K G (kvs.map (·.2)) ds → Rep K G (.ref a) (.dt ks ds)
inductive Reps (K : PySem.W.Frag) (G : Hp) : List V → List D → Prop
  | nil : Reps K G [] []
  | cons {v : V} {vs : List V} {d : D} {ds : List D} : Rep K G v d → Reps K G vs ds → Reps K G (v :: vs) (d :: ds)
end

theorem Same.rd {G G' : Hp} (e : Same G G') {a : Addr} {u : HO} (h : Rd G a u) : Rd G' a u := by
  rcases h with h | ⟨o, h⟩
  · exact .inl (e _ _ h)
  · exact .inr ⟨o, e _ _ h⟩
theorem Same.tup {K : PySem.W.Frag} {H H' : Hp} {a : Addr} {xs : List V} (e : Same H H') (h : SqT K H a xs) : SqT K H' a xs := by
  rcases h with h | h
  · exact .inl (Same.rd e h)
  · exact .inr h

section
variable {K : PySem.W.Frag} {G G' : Hp}
mutual
theorem Rep.mono (e : Same G G') : ∀ {v : V} {d : D}, Rep K G v d → Rep K G' v d
  | _, _, .n => .n
  | _, _, .b x => .b x
  | _, _, .i x => .i x
  | _, _, .s x => .s x
  | _, _, .o a => .o a
  | _, _, .l h r => .l (e _ _ h) (Reps.mono e r)
  | _, _, .z h r => .z (e.seq h) (Reps.mono e r)
  | _, _, .t h r => .t (e _ _ h) (Reps.mono e r)
  | _, _, .zt h r => .zt (Same.tup e h) (Reps.mono e r)
  | _, _, .dk h q r => .dk (Same.rd e h) q (Reps.mono e r)
  | _, _, .dt h q r => .dt (Same.rd e h) q (Reps.mono e r)
theorem Reps.mono (e : Same G G') : ∀ {vs : List V} {ds : List D}, Reps K G vs ds → Reps K G' vs ds
  | _, _, .nil => .nil
  | _, _, .cons h r => .cons (Rep.mono e h) (Reps.mono e r)
end
theorem Reps.length : ∀ {vs : List V} {ds : List D}, Reps K G vs ds → vs.length = ds.length
  | _, _, .nil => rfl
  | _, _, .cons _ r => by simp [Reps.length r]
theorem Reps.get : ∀ {vs : List V} {ds : List D} {i : Nat} {v : V}, Reps K G vs ds → vs[i]? = some v → ∃ d, ds[i]? = some d ∧ Rep K G v d
  | _, _, _, _, .nil, e => by simp at e
  | _, _, 0, _, .cons h _, e => by simp at e; subst e; exact ⟨_, rfl, h⟩
  | _, _, i + 1, _, .cons _ r, e => by
    obtain ⟨d, h1, h2⟩ := Reps.get (i := i) r (by simpa using e)
    exact ⟨d, by simpa using h1, h2⟩
theorem Reps.get' : ∀ {vs : List V} {ds : List D} {i : Nat} {d : D}, Reps K G vs ds → ds[i]? = some d → ∃ v, vs[i]? = some v ∧ Rep K G v d
  | _, _, _, _, .nil, e => by simp at e
  | _, _, 0, _, .cons h _, e => by simp at e; subst e; exact ⟨_, rfl, h⟩
  | _, _, i + 1, _, .cons _ r, e => by
    obtain ⟨d, h1, h2⟩ := Reps.get' (i := i) r (by simpa using e)
    exact ⟨d, by simpa using h1, h2⟩
theorem Reps.append : ∀ {vs ws : List V} {ds es : List D}, Reps K G vs ds → Reps K G ws es → Reps K G (vs ++ ws) (ds ++ es)
  | _, _, _, _, .nil, s => s
  | _, _, _, _, .cons h r, s => .cons h (Reps.append r s)
theorem Reps.take : ∀ {vs : List V} {ds : List D} (n : Nat), Reps K G vs ds → Reps K G (vs.take n) (ds.take n)
  | _, _, 0, _ => .nil
  | _, _, _ + 1, .nil => .nil
  | _, _, n + 1, .cons h r => .cons h (Reps.take n r)
theorem Reps.drop : ∀ {vs : List V} {ds : List D} (n : Nat), Reps K G vs ds → Reps K G (vs.drop n) (ds.drop n)
  | _, _, 0, r => r
  | _, _, _ + 1, .nil => .nil
  | _, _, n + 1, .cons _ r => Reps.drop n r
theorem Reps.set {v : V} {d : D} (h : Rep K G v d) : ∀ {vs : List V} {ds : List D} (i : Nat), Reps K G vs ds → Reps K G (vs.set i v) (ds.set i d)
  | _, _, _, .nil => .nil
  | _, _, 0, .cons _ r => .cons h r
  | _, _, i + 1, .cons q r => .cons q (Reps.set h i r)
theorem Reps.reverse : ∀ {vs : List V} {ds : List D}, Reps K G vs ds → Reps K G vs.reverse ds.reverse
  | _, _, .nil => .nil
  | _, _, .cons h r => by
    rw [List.reverse_cons, List.reverse_cons]
    exact (Reps.reverse r).append (.cons h .nil)
theorem Rep.int_inv {v : V} {z : Int} (h : Rep K G v (.i z)) : v = .int z := by cases h; rfl
theorem Rep.str_inv {v : V} {z : Str} (h : Rep K G v (.s z)) : v = .str z := by cases h; rfl
theorem Rep.bl_inv {v : V} {z : Bool} (h : Rep K G v (.b z)) : v = .bl z := by cases h; rfl
theorem Rep.n_inv {v : V} (h : Rep K G v .n) : v = .non := by cases h; rfl
theorem Rep.l_inv {v : V} {ds : List D} (h : Rep K G v (.l ds)) : ∃ a xs, v = .ref a ∧ G a = some (.lst xs) ∧ Reps K G xs ds := by
  cases h with | l h r => exact ⟨_, _, rfl, h, r⟩
theorem Rep.t_inv {v : V} {ds : List D} (h : Rep K G v (.t ds)) : ∃ a xs, v = .ref a ∧ G a = some (.tup xs) ∧ Reps K G xs ds := by
  cases h with | t h r => exact ⟨_, _, rfl, h, r⟩
theorem Rep.zt_inv {v : V} {ds : List D} (h : Rep K G v (.zt ds)) : ∃ a xs, v = .ref a ∧ SqT K G a xs ∧ Reps K G xs ds := by
  cases h with | zt h r => exact ⟨_, _, rfl, h, r⟩
theorem Reps.ints : ∀ {vs : List V} {zs : List Int}, Reps K G vs (zs.map D.i) → vs = zs.map V.int
  | _, [], .nil => rfl
  | _, z :: zs, .cons h r => by rw [h.int_inv, List.map_cons, Reps.ints r]
theorem Reps.ofInts : ∀ (zs : List Int), Reps K G (zs.map V.int) (zs.map D.i)
  | [] => .nil
  | z :: zs => .cons (.i z) (Reps.ofInts zs)
theorem Reps.strs : ∀ {vs : List V} {zs : List Str}, Reps K G vs (zs.map D.s) → vs = zs.map V.str
  | _, [], .nil => rfl
  | _, z :: zs, .cons h r => by rw [h.str_inv, List.map_cons, Reps.strs r]
theorem Reps.ofStrs : ∀ (zs : List Str), Reps K G (zs.map V.str) (zs.map D.s)
  | [] => .nil
  | z :: zs => .cons (.s z) (Reps.ofStrs zs)
end

class Tb where
  T : List (Addr × Str)
instance (priority := low) noTb : Tb := ⟨[]⟩
def Non (H : Hp) (p : Addr) : Prop := ∀ o, H p = some o → ∃ ps, o = .tbl ps
theorem Non.of {H : Hp} {p : Addr} (h : H p = none) : Non H p := fun o e => by rw [h] at e; cases e
def NoT (G : Hp) : Prop := ∀ a ps, G a ≠ some (.tbl ps)
abbrev Kept (H H' : Hp) : Prop := LamX.ExtN H H'
theorem Kept.of {H H' : Hp} (e : Same H H') : Kept H H' := fun b o h _ => e b o h
theorem Kept.non {H H' : Hp} (e : Kept H H') {p : Addr} (n : Non H' p) : Non H p := fun o h => by
  by_cases q : ∃ ps, o = .tbl ps
  · exact q
  · exact absurd (n o (e p o h fun ps z => q ⟨ps, z⟩)) q
theorem Kept.free {H H' : Hp} (e : Kept H H') {p : Addr} (n : H' p = none) : Non H p := Kept.non e (.of n)
theorem NoT.upd {G : Hp} (n : NoT G) {p : Addr} {o : HO} (ho : ∀ ps, o ≠ .tbl ps) : NoT (upd G p o) := fun a ps e => by
  by_cases h : a = p
  · subst h; rw [upd_same] at e; exact ho ps (Option.some.inj e)
  · rw [upd_ne h] at e; exact n a ps e
theorem Kept.upd {H H' : Hp} (e : Kept H H') {p : Addr} {o : HO} (n : Non H p) : Kept H (upd H' p o) := fun b u h hu => by
  by_cases hb : b = p
  · subst hb; obtain ⟨ps, z⟩ := n u h; exact absurd z (hu ps)
  · rw [upd_ne hb]; exact e b u h hu
def Plain (o : HO) : Prop := (∀ ps, o ≠ .tbl ps) ∧ ∀ f, o ≠ .ext f
theorem tabs_put {T : List (Addr × Str)} {H : Hp} (t : LamX.Tabs T H) {p : Addr} {o o' : HO} (e : H p = some o) (h : Plain o) : LamX.Tabs T (upd H p o') := fun q hq => by
  obtain ⟨ps, h1, h2, h3⟩ := t q hq
  have n1 : q.1 ≠ p := fun z => by rw [z, e] at h1; exact h.1 ps (Option.some.inj h1)
  refine ⟨ps, by rw [upd_ne n1]; exact h1, h2, fun pos cv hc => ?_⟩
  obtain ⟨c, e1, e2⟩ := h3 pos cv hc
  refine ⟨c, e1, ?_⟩
  have n2 : c ≠ p := fun z => by
    rw [z, e] at e2
    have e3 := Option.some.inj e2
    unfold LamX.CodeO at e3
    exact h.2 _ e3
  rw [upd_ne n2]; exact e2
section
variable [Tb]
structure Gr (G H G' H' : Hp) : Prop where
  hh : Kept H H'
  gg : Same G G'
  gh : Same G' H'
  nw : ∀ a o, G' a = some o → ¬ Non H a → G a = some o
  gt : NoT G → NoT G'
  tb : LamX.Tabs Tb.T H → LamX.Tabs Tb.T H'
theorem Gr.refl {G H : Hp} (h : Same G H) : Gr G H G H := ⟨LamX.ExtN.refl _, Same.refl _, h, fun _ _ e _ => e, id, id⟩
theorem Gr.trans {G H G1 H1 G2 H2 : Hp} (a : Gr G H G1 H1) (b : Gr G1 H1 G2 H2) : Gr G H G2 H2 :=
  ⟨a.hh.trans b.hh, a.gg.trans b.gg, b.gh, fun c o e n => a.nw c o (b.nw c o e fun z => n (Kept.non a.hh z)) n, fun n => b.gt (a.gt n), fun t => b.tb (a.tb t)⟩
theorem Gr.new {G H : Hp} (h : Same G H) {p : Addr} {o : HO} (hp : H p = none) (ho : ∀ ps, o ≠ .tbl ps := by intro _ z; cases z) : Gr G H (upd G p o) (upd H p o) := by
  have gp : G p = none := h.free hp
  refine ⟨Kept.upd (.refl _) (.of hp), fun b u e => by rw [upd_ne (ne_of_none e gp)]; exact e, fun b u e => ?_, fun b u e n => ?_, fun n => n.upd ho, fun t => t.ext fun b u e => by rw [upd_ne (ne_of_none e hp)]; exact e⟩
  · by_cases hb : b = p
    · subst hb; rw [upd_same] at e ⊢; exact e
    · rw [upd_ne hb] at e ⊢; exact h b u e
  · by_cases hb : b = p
    · subst hb; exact absurd (.of hp) n
    · rw [upd_ne hb] at e; exact e
theorem Gr.own {G H : Hp} (h : Same G H) {p : Addr} {o : HO} (hp : H p = none) : Gr G H G (upd H p o) :=
  ⟨Kept.upd (.refl _) (.of hp), Same.refl _, fun b u e => by rw [upd_ne (ne_of_none (h b u e) hp)]; exact h b u e, fun _ _ e _ => e, id, fun t => t.ext fun b u e => by rw [upd_ne (ne_of_none e hp)]; exact e⟩
theorem Gr.freeze {G0 H0 G H : Hp} (g : Gr G0 H0 G H) {p : Addr} {o : HO} (hp : Non H0 p) (gp : G p = none) (e : H p = some o) (ho : ∀ ps, o ≠ .tbl ps) : Gr G0 H0 (upd G p o) H := by
  refine ⟨g.hh, fun b u q => ?_, fun b u q => ?_, fun b u q n => ?_, fun n => (g.gt n).upd ho, g.tb⟩
  · have z := g.gg b u q
    rw [upd_ne (ne_of_none z gp)]; exact z
  · by_cases hb : b = p
    · subst hb; rw [upd_same] at q; rw [e]; exact q
    · rw [upd_ne hb] at q; exact g.gh b u q
  · by_cases hb : b = p
    · subst hb; exact absurd hp n
    · rw [upd_ne hb] at q; exact g.nw b u q n
theorem Gr.keepNone {G H G' H' : Hp} (g : Gr G H G' H') {p : Addr} (gp : G p = none) (e : ¬ Non H p) : G' p = none := by
  cases q : G' p with
  | none => rfl
  | some u =>
    have z := g.nw p u q e
    rw [gp] at z; cases z
theorem Gr.put {G H G' H' : Hp} (g : Gr G H G' H') {p : Addr} {o o' : HO} (hp : Non H p) (gp : G' p = none) (e : H' p = some o) (h : Plain o) : Gr G H G' (upd H' p o') :=
  ⟨Kept.upd g.hh hp, g.gg, fun b u q => by rw [upd_ne (ne_of_none q gp)]; exact g.gh b u q, g.nw, g.gt, fun t => tabs_put (g.tb t) e h⟩
theorem Gr.less {G0 G H G' H' : Hp} (g : Gr G H G' H') (sm : Same G0 G) : Gr G0 H G0 H' := ⟨g.hh, Same.refl _, (sm.trans g.gg).trans g.gh, fun _ _ z _ => z, id, g.tb⟩
end

inductive Own (K : PySem.W.Frag) (G H : Hp) (p : Addr) : D → Prop
  | l {xs : List V} {ds : List D} : H p = some (.lst xs) → Reps K G xs ds → Own K G H p (.l ds)
  | dk {kvs : List (Key × V)} {ks : List Key} {ds : List D} : H p = some (.dK kvs) → ks = kvs.map (·.1) → Reps K G (kvs.map (·.2)) ds → Own K G H p (.dk ks ds)
  | dt {kvs : List (List Key × V)} {ks : List (List Key)} {ds : List D} : H p = some (.dT kvs) → ks = kvs.map (·.1) → Reps K G (kvs.map (·.2)) ds → Own K G H p (.dt ks ds)
theorem Own.mono {K : PySem.W.Frag} {G H G' H' : Hp} {p : Addr} {d : D} (hh : Kept H H') (gg : Same G G') (o : Own K G H p d) : Own K G' H' p d := by
  cases o with
  | l h r => exact .l (hh _ _ h fun _ z => by cases z) (r.mono gg)
  | dk h q r => exact .dk (hh _ _ h fun _ z => by cases z) q (r.mono gg)
  | dt h q r => exact .dt (hh _ _ h fun _ z => by cases z) q (r.mono gg)
theorem Own.some {K : PySem.W.Frag} {G H : Hp} {p : Addr} {d : D} (o : Own K G H p d) : ∃ u, H p = some u ∧ Plain u := by
  cases o with
  | l h r => exact ⟨_, h, fun _ z => (by cases z), fun _ z => (by cases z)⟩
  | dk h q r => exact ⟨_, h, fun _ z => (by cases z), fun _ z => (by cases z)⟩
  | dt h q r => exact ⟨_, h, fun _ z => (by cases z), fun _ z => (by cases z)⟩
theorem live_of {H : Hp} {p : Addr} {u : HO} (e : H p = some u) (h : ∀ ps, u ≠ .tbl ps := by intro _ z; cases z) : ¬ Non H p := fun n => by
  obtain ⟨ps, z⟩ := n u e
  exact h ps z
theorem Own.live {K : PySem.W.Frag} {G H : Hp} {p : Addr} {d : D} (o : Own K G H p d) : ¬ Non H p := by
  obtain ⟨u, e, h, _⟩ := o.some
  exact live_of e h
theorem Own.rep {K : PySem.W.Frag} {G H : Hp} {p : Addr} {d : D} (gp : G p = none) (o : Own K G H p d) : ∃ u, H p = .some u ∧ Plain u ∧ Rep K (upd G p u) (.ref p) d := by
  have sm : ∀ u, Same G (upd G p u) := fun u b w e => by rw [upd_ne (ne_of_none e gp)]; exact e
  cases o with
  | l h r => exact ⟨_, h, ⟨fun _ z => (by cases z), fun _ z => (by cases z)⟩, .l upd_same (r.mono (sm _))⟩
  | dk h q r => exact ⟨_, h, ⟨fun _ z => (by cases z), fun _ z => (by cases z)⟩, .dk (.inl upd_same) q (r.mono (sm _))⟩
  | dt h q r => exact ⟨_, h, ⟨fun _ z => (by cases z), fun _ z => (by cases z)⟩, .dt (.inl upd_same) q (r.mono (sm _))⟩

inductive Rv where
  | sh (d : D) | fr (d : D) | bo (d : D)
def Rv.d : Rv → D
  | .sh d => d | .fr d => d | .bo d => d
structure Exn where
  cls : Str
  fs : Option (List (Str × D)) := none
inductive Re (α : Type) where
  | ok (a : α) | ex (e : Exn) | bad
def Re.bind {α β : Type} (x : Re α) (f : α → Re β) : Re β := match x with
  | .ok a => f a | .ex e => .ex e | .bad => .bad
@[simp] theorem Re.bind_ok {α β : Type} (a : α) (f : α → Re β) : (Re.ok a).bind f = f a := rfl
@[simp] theorem Re.bind_ex {α β : Type} (e : Exn) (f : α → Re β) : (Re.ex e : Re α).bind f = .ex e := rfl
@[simp] theorem Re.bind_bad {α β : Type} (f : α → Re β) : (Re.bad : Re α).bind f = .bad := rfl

abbrev Env' := List (Option Rv)
abbrev FE := Env' → Re Rv
abbrev FT := Env' → Re Bool
abbrev FA := Env' → Re (List D)
abbrev FI := Env' → Re (List D)
inductive Fl where
  | nx (Γ : Env') | rt (r : Rv) | bk (Γ : Env') | ct (Γ : Env') | ex (e : Exn) (Γ : Env') | bad
abbrev FS := Env' → Fl

structure LC where
  K : PySem.W.Frag
  mg : Str → Option Value
  B : Hp
  G0 : Hp
  W : WX

section
variable [Tb]
def RV (c : LC) (G H : Hp) (v : V) : Rv → Prop
  | .sh d => Rep c.K G v d
  | .fr d => ∃ p, v = .ref p ∧ Non c.B p ∧ G p = none ∧ Own c.K G H p d
  | .bo d => ∃ p, v = .ref p ∧ Non c.B p ∧ G p = none ∧ Own c.K G H p d
def Fresh (H0 : Hp) (v : V) : Rv → Prop
  | .fr _ => ∃ p, v = .ref p ∧ Non H0 p
  | _ => True
theorem RV.mono {c : LC} {G H G' H' : Hp} {v : V} {r : Rv} (g : Gr G H G' H') (h : RV c G H v r) : RV c G' H' v r := by
  cases r with
  | sh d => exact Rep.mono g.gg h
  | fr d =>
    obtain ⟨p, e, b, n, o⟩ := h
    exact ⟨p, e, b, g.keepNone n o.live, o.mono g.hh g.gg⟩
  | bo d =>
    obtain ⟨p, e, b, n, o⟩ := h
    exact ⟨p, e, b, g.keepNone n o.live, o.mono g.hh g.gg⟩

structure EnvOk (c : LC) (G H : Hp) (σ : St) (Γ : Env') : Prop where
  bh : Kept c.B H
  g0 : Same c.G0 G
  gh : Same G H
  gf : ∀ a o, G a = some o → ¬ Non c.B a → c.G0 a = some o
  gt : NoT G
  tb : LamX.Tabs Tb.T H
  len : σ.length = Γ.length
  at' : ∀ (i : Nat) (r : Rv), Γ[i]? = some (some r) → ∃ v, σ[i]? = some (some v) ∧ RV c G H v r ∧ ∀ d, r ≠ .bo d
  sep : ∀ (i j : Nat) (d e : D) (p : Addr), Γ[i]? = some (some (.fr d)) → Γ[j]? = some (some (.fr e)) → σ[i]? = some (some (.ref p)) → σ[j]? = some (some (.ref p)) → i = j
theorem EnvOk.mono {c : LC} {G H G' H' : Hp} {σ : St} {Γ : Env'} (e : EnvOk c G H σ Γ) (g : Gr G H G' H') : EnvOk c G' H' σ Γ := by
  refine ⟨e.bh.trans g.hh, e.g0.trans g.gg, g.gh, fun a o q n => e.gf a o (g.nw a o q fun z => n (Kept.non e.bh z)) n, g.gt e.gt, g.tb e.tb, e.len, fun i r h => ?_, e.sep⟩
  · obtain ⟨v, h1, h2, h3⟩ := e.at' i r h
    exact ⟨v, h1, h2.mono g, h3⟩

def ExAt (c : LC) (W : Value → Option Addr → Hp → Prop) (e : Exn) (G H : Hp) : Prop :=
  ∀ (C : Addr) (d : Option Addr), c.mg e.cls = some (.ref C) →
    (match e.fs with
      | none => d = none
      | some fs => ∃ (p : Addr) (vs : List (Str × V)), d = some p ∧ H p = some (.xd vs) ∧ vs.map (·.1) = fs.map (·.1) ∧ Reps c.K G (vs.map (·.2)) (fs.map (·.2))) →
    W (.ref C) d H

def Post (c : LC) (re : Re Rv) (σ : St) (G H : Hp) (Q : VK) : Prop := match re with
  | .ok r => ∀ v G' H', Gr G H G' H' → RV c G' H' v r → Fresh H v r → Q v H'
  | .ex e => ∀ G' H', Gr G H G' H' → ExAt c (fun C d H' => c.W C d σ H') e G' H'
  | .bad => False
def PostT (c : LC) (re : Re Bool) (σ : St) (G H : Hp) (Q : Bool → Hp → Prop) : Prop := match re with
  | .ok r => ∀ G' H', Gr G H G' H' → Q r H'
  | .ex e => ∀ G' H', Gr G H G' H' → ExAt c (fun C d H' => c.W C d σ H') e G' H'
  | .bad => False
def PostA (c : LC) (re : Re (List D)) (σ : St) (G H : Hp) (Q : List V → Hp → Prop) : Prop := match re with
  | .ok ds => ∀ vs G' H', Gr G H G' H' → Reps c.K G' vs ds → Q vs H'
  | .ex e => ∀ G' H', Gr G H G' H' → ExAt c (fun C d H' => c.W C d σ H') e G' H'
  | .bad => False
def tE (c : LC) (f : FE) : TE := fun σ H Q => ∃ G Γ, EnvOk c G H σ Γ ∧ Post c (f Γ) σ G H Q
def tT (c : LC) (f : FT) : TT := fun σ H Q => ∃ G Γ, EnvOk c G H σ Γ ∧ PostT c (f Γ) σ G H Q
def tA (c : LC) (f : FA) : TA := fun σ H Q => ∃ G Γ, EnvOk c G H σ Γ ∧ PostA c (f Γ) σ G H Q

theorem PE.weak {X : Cx} {e : Expr} {t t' : TE} (h : PE X e t) (w : ∀ σ H Q, t' σ H Q → t σ H Q) : PE X e t' := ⟨fun pins s σ H Q I q => h.run pins s σ H Q I (w _ _ _ q)⟩
theorem PT.weak {X : Cx} {e : Expr} {t t' : TT} (h : PT X e t) (w : ∀ σ H Q, t' σ H Q → t σ H Q) : PT X e t' := ⟨fun pins s σ H Q I q => h.run pins s σ H Q I (w _ _ _ q)⟩
theorem PA.weak {X : Cx} {e : List Expr} {t t' : TA} (h : PA X e t) (w : ∀ σ H Q, t' σ H Q → t σ H Q) : PA X e t' := ⟨fun pos pins s σ H Q I q => h.run pos pins s σ H Q I (w _ _ _ q)⟩
theorem PS.weak {X : Cx} {e : Stmt} {t t' : TS} (h : PS X e t) (w : ∀ D σ H, t' D σ H → t D σ H) : PS X e t' := ⟨fun pins s σ H D I q => h.run pins s σ H D I (w _ _ _ q)⟩
theorem PSs.weak {X : Cx} {e : List Stmt} {t t' : TS} (h : PSs X e t) (w : ∀ D σ H, t' D σ H → t D σ H) : PSs X e t' := ⟨fun pins s σ H D I q => h.run pins s σ H D I (w _ _ _ q)⟩

theorem Post.ex_later {c : LC} {e : Exn} {σ : St} {G H G1 H1 : Hp} (g : Gr G H G1 H1) (h : ∀ G' H', Gr G H G' H' → ExAt c (fun C d H' => c.W C d σ H') e G' H') :
    ∀ G' H', Gr G1 H1 G' H' → ExAt c (fun C d H' => c.W C d σ H') e G' H' := fun G' H' g' => h G' H' (g.trans g')
theorem Fresh.back {H0 H : Hp} {v : V} {r : Rv} (e : Kept H0 H) (h : Fresh H v r) : Fresh H0 v r := by
  cases r with
  | fr d => obtain ⟨p, e1, e2⟩ := h; exact ⟨p, e1, Kept.non e e2⟩
  | sh d => trivial
  | bo d => trivial
theorem Post.later {c : LC} {re : Re Rv} {σ : St} {G H G1 H1 : Hp} {Q : VK} (g : Gr G H G1 H1) (h : Post c re σ G H Q) : Post c re σ G1 H1 Q := by
  cases re with
  | bad => exact h
  | ex x => exact Post.ex_later g h
  | ok r => exact fun v G2 H2 g2 rv fr => h v G2 H2 (g.trans g2) rv (fr.back g.hh)
theorem PostT.later {c : LC} {re : Re Bool} {σ : St} {G H G1 H1 : Hp} {Q : Bool → Hp → Prop} (g : Gr G H G1 H1) (h : PostT c re σ G H Q) : PostT c re σ G1 H1 Q := by
  cases re with
  | bad => exact h
  | ex x => exact Post.ex_later g h
  | ok r => exact fun G2 H2 g2 => h G2 H2 (g.trans g2)
theorem PostA.later {c : LC} {re : Re (List D)} {σ : St} {G H G1 H1 : Hp} {Q : List V → Hp → Prop} (g : Gr G H G1 H1) (h : PostA c re σ G H Q) : PostA c re σ G1 H1 Q := by
  cases re with
  | bad => exact h
  | ex x => exact Post.ex_later g h
  | ok r => exact fun v G2 H2 g2 rv => h v G2 H2 (g.trans g2) rv
theorem tE_bind {c : LC} {f : FE} {σ : St} {H : Hp} {G : Hp} {Γ : Env'} (he : EnvOk c G H σ Γ) {β : Type} {k : Rv → Re β} {R : VK}
    {P : Re β → Hp → Hp → Prop} (hb : ∀ G H, P .bad G H → False) (hx : ∀ x G H, P (.ex x) G H → ∀ G' H', Gr G H G' H' → ExAt c (fun C d H' => c.W C d σ H') x G' H') (hl : ∀ r G H G' H', Gr G H G' H' → P r G H → P r G' H') (h : P ((f Γ).bind k) G H)
    (hk : ∀ r v G' H', f Γ = .ok r → Gr G H G' H' → RV c G' H' v r → Fresh H v r → EnvOk c G' H' σ Γ → P (k r) G' H' → R v H') : tE c f σ H R := by
  refine ⟨G, Γ, he, ?_⟩
  cases e : f Γ with
  | bad => rw [e] at h; exact (hb _ _ h).elim
  | ex x => rw [e] at h; exact hx _ _ _ h
  | ok r =>
    intro v G' H' g rv fr
    rw [e] at h
    exact hk r v G' H' e g rv fr (he.mono g) (hl _ _ _ _ _ g h)
theorem tT_bind {c : LC} {f : FT} {σ : St} {H : Hp} {G : Hp} {Γ : Env'} (he : EnvOk c G H σ Γ) {β : Type} {k : Bool → Re β} {R : Bool → Hp → Prop}
    {P : Re β → Hp → Hp → Prop} (hb : ∀ G H, P .bad G H → False) (hx : ∀ x G H, P (.ex x) G H → ∀ G' H', Gr G H G' H' → ExAt c (fun C d H' => c.W C d σ H') x G' H') (hl : ∀ r G H G' H', Gr G H G' H' → P r G H → P r G' H') (h : P ((f Γ).bind k) G H)
    (hk : ∀ r G' H', f Γ = .ok r → Gr G H G' H' → EnvOk c G' H' σ Γ → P (k r) G' H' → R r H') : tT c f σ H R := by
  refine ⟨G, Γ, he, ?_⟩
  cases e : f Γ with
  | bad => rw [e] at h; exact (hb _ _ h).elim
  | ex x => rw [e] at h; exact hx _ _ _ h
  | ok r =>
    intro G' H' g
    rw [e] at h
    exact hk r G' H' e g (he.mono g) (hl _ _ _ _ _ g h)
theorem tA_bind {c : LC} {f : FA} {σ : St} {H : Hp} {G : Hp} {Γ : Env'} (he : EnvOk c G H σ Γ) {β : Type} {k : List D → Re β} {R : List V → Hp → Prop}
    {P : Re β → Hp → Hp → Prop} (hb : ∀ G H, P .bad G H → False) (hx : ∀ x G H, P (.ex x) G H → ∀ G' H', Gr G H G' H' → ExAt c (fun C d H' => c.W C d σ H') x G' H') (hl : ∀ r G H G' H', Gr G H G' H' → P r G H → P r G' H') (h : P ((f Γ).bind k) G H)
    (hk : ∀ r vs G' H', f Γ = .ok r → Gr G H G' H' → Reps c.K G' vs r → EnvOk c G' H' σ Γ → P (k r) G' H' → R vs H') : tA c f σ H R := by
  refine ⟨G, Γ, he, ?_⟩
  cases e : f Γ with
  | bad => rw [e] at h; exact (hb _ _ h).elim
  | ex x => rw [e] at h; exact hx _ _ _ h
  | ok r =>
    intro vs G' H' g rv
    rw [e] at h
    exact hk r vs G' H' e g rv (he.mono g) (hl _ _ _ _ _ g h)
theorem Post.wish {c : LC} {σ : St} {Q : VK} : (∀ G H, Post c .bad σ G H Q → False) ∧ (∀ x G H, Post c (.ex x) σ G H Q → ∀ G' H', Gr G H G' H' → ExAt c (fun C d H' => c.W C d σ H') x G' H') ∧ (∀ r G H G' H', Gr G H G' H' → Post c r σ G H Q → Post c r σ G' H' Q) :=
  ⟨fun _ _ h => h, fun _ _ _ h => h, fun _ _ _ _ _ g h => h.later g⟩
theorem PostT.wish {c : LC} {σ : St} {Q : Bool → Hp → Prop} : (∀ G H, PostT c .bad σ G H Q → False) ∧ (∀ x G H, PostT c (.ex x) σ G H Q → ∀ G' H', Gr G H G' H' → ExAt c (fun C d H' => c.W C d σ H') x G' H') ∧ (∀ r G H G' H', Gr G H G' H' → PostT c r σ G H Q → PostT c r σ G' H' Q) :=
  ⟨fun _ _ h => h, fun _ _ _ h => h, fun _ _ _ _ _ g h => h.later g⟩
theorem PostA.wish {c : LC} {σ : St} {Q : List V → Hp → Prop} : (∀ G H, PostA c .bad σ G H Q → False) ∧ (∀ x G H, PostA c (.ex x) σ G H Q → ∀ G' H', Gr G H G' H' → ExAt c (fun C d H' => c.W C d σ H') x G' H') ∧ (∀ r G H G' H', Gr G H G' H' → PostA c r σ G H Q → PostA c r σ G' H' Q) :=
  ⟨fun _ _ h => h, fun _ _ _ h => h, fun _ _ _ _ _ g h => h.later g⟩
end
end Ly
end

section
set_option maxRecDepth 100000
namespace Ly
open PySem PySem.Spec L2
open PyProof.Rows hiding St
variable [Tb]

structure Cy (X : Cx) (c : LC) : Prop where
  K : X.K = c.K
  mg : X.mg = c.mg
  tk : L2N.Takes X c.W
  calm : X.calm = true
  nd : X.N.Nodup
  un : X.A.units + 64 < cLine

theorem EnvOk.sh {c : LC} {G H : Hp} {σ : St} {Γ : Env'} (e : EnvOk c G H σ Γ) : Same G H := e.gh

theorem eE {c : LC} {f : FE} {σ : St} {H : Hp} {G : Hp} {Γ : Env'} {Q : VK} {k : Rv → Re Rv} {R : VK} (he : EnvOk c G H σ Γ) (h : Post c ((f Γ).bind k) σ G H Q)
    (hk : ∀ r v G' H', f Γ = .ok r → Gr G H G' H' → RV c G' H' v r → Fresh H v r → EnvOk c G' H' σ Γ → Post c (k r) σ G' H' Q → R v H') : tE c f σ H R :=
  tE_bind (P := fun r G H => Post c r σ G H Q) he Post.wish.1 Post.wish.2.1 Post.wish.2.2 h hk
theorem eT {c : LC} {f : FE} {σ : St} {H : Hp} {G : Hp} {Γ : Env'} {Q : Bool → Hp → Prop} {k : Rv → Re Bool} {R : VK} (he : EnvOk c G H σ Γ) (h : PostT c ((f Γ).bind k) σ G H Q)
    (hk : ∀ r v G' H', f Γ = .ok r → Gr G H G' H' → RV c G' H' v r → Fresh H v r → EnvOk c G' H' σ Γ → PostT c (k r) σ G' H' Q → R v H') : tE c f σ H R :=
  tE_bind (P := fun r G H => PostT c r σ G H Q) he PostT.wish.1 PostT.wish.2.1 PostT.wish.2.2 h hk
theorem eA {c : LC} {f : FE} {σ : St} {H : Hp} {G : Hp} {Γ : Env'} {Q : List V → Hp → Prop} {k : Rv → Re (List D)} {R : VK} (he : EnvOk c G H σ Γ) (h : PostA c ((f Γ).bind k) σ G H Q)
    (hk : ∀ r v G' H', f Γ = .ok r → Gr G H G' H' → RV c G' H' v r → Fresh H v r → EnvOk c G' H' σ Γ → PostA c (k r) σ G' H' Q → R v H') : tE c f σ H R :=
  tE_bind (P := fun r G H => PostA c r σ G H Q) he PostA.wish.1 PostA.wish.2.1 PostA.wish.2.2 h hk
theorem tTE {c : LC} {f : FT} {σ : St} {H : Hp} {G : Hp} {Γ : Env'} {Q : VK} {k : Bool → Re Rv} {R : Bool → Hp → Prop} (he : EnvOk c G H σ Γ) (h : Post c ((f Γ).bind k) σ G H Q)
    (hk : ∀ r G' H', f Γ = .ok r → Gr G H G' H' → EnvOk c G' H' σ Γ → Post c (k r) σ G' H' Q → R r H') : tT c f σ H R :=
  tT_bind (P := fun r G H => Post c r σ G H Q) he Post.wish.1 Post.wish.2.1 Post.wish.2.2 h hk
theorem tTT {c : LC} {f : FT} {σ : St} {H : Hp} {G : Hp} {Γ : Env'} {Q : Bool → Hp → Prop} {k : Bool → Re Bool} {R : Bool → Hp → Prop} (he : EnvOk c G H σ Γ) (h : PostT c ((f Γ).bind k) σ G H Q)
    (hk : ∀ r G' H', f Γ = .ok r → Gr G H G' H' → EnvOk c G' H' σ Γ → PostT c (k r) σ G' H' Q → R r H') : tT c f σ H R :=
  tT_bind (P := fun r G H => PostT c r σ G H Q) he PostT.wish.1 PostT.wish.2.1 PostT.wish.2.2 h hk
theorem tAE {c : LC} {f : FA} {σ : St} {H : Hp} {G : Hp} {Γ : Env'} {Q : VK} {k : List D → Re Rv} {R : List V → Hp → Prop} (he : EnvOk c G H σ Γ) (h : Post c ((f Γ).bind k) σ G H Q)
    (hk : ∀ r vs G' H', f Γ = .ok r → Gr G H G' H' → Reps c.K G' vs r → EnvOk c G' H' σ Γ → Post c (k r) σ G' H' Q → R vs H') : tA c f σ H R :=
  tA_bind (P := fun r G H => Post c r σ G H Q) he Post.wish.1 Post.wish.2.1 Post.wish.2.2 h hk
theorem tAA {c : LC} {f : FA} {σ : St} {H : Hp} {G : Hp} {Γ : Env'} {Q : List V → Hp → Prop} {k : List D → Re (List D)} {R : List V → Hp → Prop} (he : EnvOk c G H σ Γ) (h : PostA c ((f Γ).bind k) σ G H Q)
    (hk : ∀ r vs G' H', f Γ = .ok r → Gr G H G' H' → Reps c.K G' vs r → EnvOk c G' H' σ Γ → PostA c (k r) σ G' H' Q → R vs H') : tA c f σ H R :=
  tA_bind (P := fun r G H => PostA c r σ G H Q) he PostA.wish.1 PostA.wish.2.1 PostA.wish.2.2 h hk
section
variable {X : Cx} {c : LC} {a b e : Expr} {f g h : FE} {pos : Pos}

def eV (i : Nat) : FE := fun Γ => match Γ[i]? with
  | some (some (.sh d)) => .ok (.sh d)
  | some (some (.fr d)) => .ok (.bo d)
  | _ => .bad
theorem re_v {i : Nat} {x : Str} (hN : X.N[i]? = some x) (hv : Vis X.env.scope x) (hd : (x == ("__debug__" : Str)) = false := by decide) (hcd : (x == ("__classdict__" : Str)) = false := by decide) :
    PE X (.Name x pos) (tE c (eV i)) := by
  refine PE.weak (pe_var hN hv hd hcd) ?_
  rintro σ H Q ⟨G, Γ, he, q⟩
  unfold eV at q
  split at q
  · rename_i d hi
    obtain ⟨v, h1, h2, _⟩ := he.at' i _ hi
    exact ⟨v, h1, q v G H (.refl he.gh) h2 True.intro⟩
  · rename_i d hi
    obtain ⟨v, h1, h2, _⟩ := he.at' i _ hi
    exact ⟨v, h1, q v G H (.refl he.gh) h2 True.intro⟩
  · exact q.elim
def eC (d : D) : FE := fun _ => .ok (.sh d)
theorem re_c {v : V} {d : D} (hp : PE X e (tC v)) (h : ∀ G, Rep c.K G v d) : PE X e (tE c (eC d)) :=
  PE.weak hp fun σ H Q ⟨G, Γ, he, q⟩ => q v G H (.refl he.gh) (h G) True.intro
theorem re_int {z : Int} {j} : PE X (.Constant (.int z) j pos) (tE c (eC (.i z))) := re_c pe_int fun _ => .i z
theorem re_bl {z : Bool} {j} : PE X (.Constant (.bool z) j pos) (tE c (eC (.b z))) := re_c pe_bl fun _ => .b z
theorem re_n {j} : PE X (.Constant .none j pos) (tE c (eC .n)) := re_c pe_non fun _ => .n
theorem re_s {z : Str} {j} : PE X (.Constant (.str z) j pos) (tE c (eC (.s z))) := re_c pe_str fun _ => .s z
theorem re_gl {x : Str} {v : V} {u : Value} {d : D} (hg : Gl X x) (hm : X.mg x = some u) (r : RelV v u) (h : ∀ G, Rep c.K G v d) (hd : (x == ("__debug__" : Str)) = false := by decide) : PE X (.Name x pos) (tE c (eC d)) :=
  re_c (pe_glob hg hm r hd) h

def e1 (k : Rv → Re Rv) (f : FE) : FE := fun Γ => (f Γ).bind k
def e2 (k : Rv → Rv → Re Rv) (f g : FE) : FE := fun Γ => (f Γ).bind fun x => (g Γ).bind fun y => k x y
def Ok1 (c : LC) (r : V → Hp → VK → Prop) (k : Rv → Re Rv) : Prop := ∀ (σ : St) (G H : Hp) (x : V) (rx : Rv) (Q : VK), Same G H → Kept c.B H → RV c G H x rx → Post c (k rx) σ G H Q → r x H Q
def Ok2 (c : LC) (r : R2) (k : Rv → Rv → Re Rv) : Prop := ∀ (σ : St) (G H : Hp) (x y : V) (rx ry : Rv) (Q : VK), Same G H → Kept c.B H → RV c G H x rx → RV c G H y ry → Post c (k rx ry) σ G H Q → r x y H Q
theorem tE_2 {k : Rv → Rv → Re Rv} {r : R2} (hk : Ok2 c r k) : ∀ σ H Q, tE c (e2 k f g) σ H Q → tOp r (tE c f) (tE c g) σ H Q := by
  rintro σ H Q ⟨G, Γ, he, q⟩
  refine eE he q fun rx x G1 H1 e1 g1 v1 fr1 he1 q1 => ?_
  refine eE he1 q1 fun ry y G2 H2 e2 g2 v2 fr2 he2 q2 => ?_
  exact hk σ G2 H2 x y rx ry Q he2.gh he2.bh (v1.mono g2) v2 q2
theorem tE_1 {k : Rv → Re Rv} {r : V → Hp → VK → Prop} (hk : Ok1 c r k) : ∀ σ H Q, tE c (e1 k f) σ H Q → tUn r (tE c f) σ H Q := by
  rintro σ H Q ⟨G, Γ, he, q⟩
  exact eE he q fun rx x G1 H1 _ g1 v1 fr1 he1 q1 => hk σ G1 H1 x rx Q he1.gh he1.bh v1 q1
theorem re_op {op : Operator} {k : Rv → Rv → Re Rv} {r : R2} (ho : OpR X (binaryOp op) r) (hk : Ok2 c r k) (ha : PE X a (tE c f)) (hb : PE X b (tE c g)) : PE X (.BinOp a op b pos) (tE c (e2 k f g)) :=
  PE.weak (pe_op ho ha hb) (tE_2 hk)
theorem re_un {op : UnaryOp} {k : Rv → Re Rv} {r : V → Hp → VK → Prop} (ho : UnR X (unaryOp op) r) (hk : Ok1 c r k) (ha : PE X a (tE c f)) : PE X (.UnaryOp op a pos) (tE c (e1 k f)) :=
  PE.weak (pe_un ho ha) (tE_1 hk)
theorem re_cmp {op : CmpOp} {k : Rv → Rv → Re Rv} {r : R2} (ho : OpR X (compareOp op) r) (hk : Ok2 c r k) (ha : PE X a (tE c f)) (hb : PE X b (tE c g)) (hm : behindInMarks op b = false) : PE X (.Compare a [op] [b] pos) (tE c (e2 k f g)) :=
  PE.weak (pe_cmpR ho ha hb hm) (tE_2 hk)

theorem RV.int {G H : Hp} {v : V} {r : Rv} {z : Int} (h : RV c G H v r) (e : r.d = .i z) : v = .int z := by
  cases r with
  | sh d => cases (show d = .i z from e); exact Rep.int_inv h
  | fr d => cases (show d = .i z from e); obtain ⟨_, _, _, _, o⟩ := h; cases o
  | bo d => cases (show d = .i z from e); obtain ⟨_, _, _, _, o⟩ := h; cases o
theorem RV.str {G H : Hp} {v : V} {r : Rv} {z : Str} (h : RV c G H v r) (e : r.d = .s z) : v = .str z := by
  cases r with
  | sh d => cases (show d = .s z from e); exact Rep.str_inv h
  | fr d => cases (show d = .s z from e); obtain ⟨_, _, _, _, o⟩ := h; cases o
  | bo d => cases (show d = .s z from e); obtain ⟨_, _, _, _, o⟩ := h; cases o
theorem RV.bl {G H : Hp} {v : V} {r : Rv} {z : Bool} (h : RV c G H v r) (e : r.d = .b z) : v = .bl z := by
  cases r with
  | sh d => cases (show d = .b z from e); exact Rep.bl_inv h
  | fr d => cases (show d = .b z from e); obtain ⟨_, _, _, _, o⟩ := h; cases o
  | bo d => cases (show d = .b z from e); obtain ⟨_, _, _, _, o⟩ := h; cases o
theorem RV.non {G H : Hp} {v : V} {r : Rv} (h : RV c G H v r) (e : r.d = .n) : v = .non := by
  cases r with
  | sh d => cases (show d = .n from e); exact Rep.n_inv h
  | fr d => cases (show d = .n from e); obtain ⟨_, _, _, _, o⟩ := h; cases o
  | bo d => cases (show d = .n from e); obtain ⟨_, _, _, _, o⟩ := h; cases o
theorem RV.lst {G H : Hp} {v : V} {r : Rv} {ds : List D} (gh : Same G H) (h : RV c G H v r) (e : r.d = .l ds) : ∃ p xs, v = .ref p ∧ H p = some (.lst xs) ∧ Reps c.K G xs ds := by
  cases r with
  | sh d => cases (show d = .l ds from e); obtain ⟨p, xs, e1, e2, e3⟩ := Rep.l_inv h; exact ⟨p, xs, e1, gh _ _ e2, e3⟩
  | fr d => cases (show d = .l ds from e); obtain ⟨p, e1, _, _, o⟩ := h; cases o with | l h1 h2 => exact ⟨p, _, e1, h1, h2⟩
  | bo d => cases (show d = .l ds from e); obtain ⟨p, e1, _, _, o⟩ := h; cases o with | l h1 h2 => exact ⟨p, _, e1, h1, h2⟩
theorem RV.tup {G H : Hp} {v : V} {r : Rv} {ds : List D} (h : RV c G H v r) (e : r.d = .t ds) : ∃ p xs, v = .ref p ∧ G p = some (.tup xs) ∧ Reps c.K G xs ds := by
  cases r with
  | sh d => cases (show d = .t ds from e); exact Rep.t_inv h
  | fr d => cases (show d = .t ds from e); obtain ⟨_, _, _, _, o⟩ := h; cases o
  | bo d => cases (show d = .t ds from e); obtain ⟨_, _, _, _, o⟩ := h; cases o
theorem Rep.z_inv {K : PySem.W.Frag} {G : Hp} {v : V} {ds : List D} (h : Rep K G v (.z ds)) : ∃ a xs, v = .ref a ∧ SqL K G a xs ∧ Reps K G xs ds := by
  cases h with | z h r => exact ⟨_, _, rfl, h, r⟩
theorem RV.zl {G H : Hp} {v : V} {r : Rv} {ds : List D} (h : RV c G H v r) (e : r.d = .z ds) : ∃ p xs, v = .ref p ∧ SqL c.K G p xs ∧ Reps c.K G xs ds := by
  cases r with
  | sh d => cases (show d = .z ds from e); exact Rep.z_inv h
  | fr d => cases (show d = .z ds from e); obtain ⟨_, _, _, _, o⟩ := h; cases o
  | bo d => cases (show d = .z ds from e); obtain ⟨_, _, _, _, o⟩ := h; cases o
theorem RV.ztup {G H : Hp} {v : V} {r : Rv} {ds : List D} (h : RV c G H v r) (e : r.d = .zt ds) : ∃ p xs, v = .ref p ∧ SqT c.K G p xs ∧ Reps c.K G xs ds := by
  cases r with
  | sh d => cases (show d = .zt ds from e); exact Rep.zt_inv h
  | fr d => cases (show d = .zt ds from e); obtain ⟨_, _, _, _, o⟩ := h; cases o
  | bo d => cases (show d = .zt ds from e); obtain ⟨_, _, _, _, o⟩ := h; cases o
def D.seq? : D → Option (List D)
  | .l ds => some ds | .z ds => some ds | _ => none
theorem RV.sql {G H : Hp} {v : V} {r : Rv} {ds : List D} (gh : Same G H) (h : RV c G H v r) (e : r.d.seq? = some ds) : ∃ p xs, v = .ref p ∧ SqL c.K H p xs ∧ Reps c.K G xs ds := by
  cases q : r.d with
  | l es =>
    rw [q] at e; cases e
    obtain ⟨p, xs, e1, e2, e3⟩ := h.lst gh q
    exact ⟨p, xs, e1, .of e2, e3⟩
  | z es =>
    rw [q] at e; cases e
    obtain ⟨p, xs, e1, e2, e3⟩ := h.zl q
    exact ⟨p, xs, e1, gh.seq e2, e3⟩
  | _ => rw [q] at e; cases e
theorem post_sh {σ : St} {G H : Hp} {Q : VK} {v : V} {d : D} (gh : Same G H) (q : Post c (.ok (.sh d)) σ G H Q) (h : Rep c.K G v d) : Q v H := q v G H (.refl gh) h True.intro
theorem post_lst {σ : St} {G H : Hp} {Q : VK} {ds : List D} {xs : List V} (bh : Kept c.B H) (gh : Same G H) (q : Post c (.ok (.fr (.l ds))) σ G H Q) (h : Reps c.K G xs ds) : ∀ p, H p = none → Q (.ref p) (upd H p (.lst xs)) := fun p hp =>
  q _ G _ (.own gh hp) ⟨p, rfl, Kept.free bh hp, gh.free hp, .l upd_same h⟩ ⟨p, rfl, .of hp⟩
theorem post_tup {σ : St} {G H : Hp} {Q : VK} {ds : List D} {xs : List V} (gh : Same G H) (q : Post c (.ok (.sh (.t ds))) σ G H Q) (h : Reps c.K G xs ds) : ∀ p, H p = none → Q (.ref p) (upd H p (.tup xs)) := fun p hp => by
  have g := Gr.new (o := .tup xs) gh hp
  exact q _ _ _ g (Rep.t upd_same (h.mono g.gg)) True.intro
theorem post_dk0 {σ : St} {G H : Hp} {Q : VK} (bh : Kept c.B H) (gh : Same G H) (q : Post c (.ok (.fr (.dk [] []))) σ G H Q) : ∀ p, H p = none → Q (.ref p) (upd H p (.dK [])) := fun p hp =>
  q _ G _ (.own gh hp) ⟨p, rfl, Kept.free bh hp, gh.free hp, .dk upd_same rfl .nil⟩ ⟨p, rfl, .of hp⟩
theorem post_dt0 {σ : St} {G H : Hp} {Q : VK} (bh : Kept c.B H) (gh : Same G H) (q : Post c (.ok (.fr (.dt [] []))) σ G H Q) : ∀ p, H p = none → Q (.ref p) (upd H p (.dT [])) := fun p hp =>
  q _ G _ (.own gh hp) ⟨p, rfl, Kept.free bh hp, gh.free hp, .dt upd_same rfl .nil⟩ ⟨p, rfl, .of hp⟩

def kI (f : Int → Int → Re Rv) : Rv → Rv → Re Rv := fun x y => match x.d, y.d with
  | .i p, .i q => f p q
  | _, _ => .bad
def oki (z : Int) : Re Rv := .ok (.sh (.i z))
def okb (z : Bool) : Re Rv := .ok (.sh (.b z))
theorem ok2_I {C : Int → Int → Prop} {h : Int → Int → Int} {f : Int → Int → Re Rv} (hf : ∀ i j, f i j = oki (h i j) ∧ C i j ∨ f i j = .bad) : Ok2 c (rI C fun i j => .int (h i j)) (kI f) := by
  intro σ G H x y rx ry Q gh bh hx hy q
  unfold kI at q
  split at q
  · rename_i i j e1 e2
    rcases hf i j with ⟨e, hc⟩ | e
    · rw [e] at q
      exact ⟨i, j, hx.int e1, hy.int e2, hc, post_sh gh q (.i _)⟩
    · rw [e] at q; exact q.elim
  · exact q.elim
theorem ok2_I0 {h : Int → Int → Int} : Ok2 c (rI0 fun i j => .int (h i j)) (kI fun i j => oki (h i j)) := by
  intro σ G H x y rx ry Q gh bh hx hy q
  unfold kI at q
  split at q
  · rename_i i j e1 e2
    exact ⟨i, j, hx.int e1, hy.int e2, post_sh gh q (.i _)⟩
  · exact q.elim
theorem ok2_B0 {h : Int → Int → Bool} : Ok2 c (rI0 fun i j => .bl (h i j)) (kI fun i j => okb (h i j)) := by
  intro σ G H x y rx ry Q gh bh hx hy q
  unfold kI at q
  split at q
  · rename_i i j e1 e2
    exact ⟨i, j, hx.int e1, hy.int e2, post_sh gh q (.b _)⟩
  · exact q.elim
theorem Ok2.or {r r' : R2} {k k' : Rv → Rv → Re Rv} (h : Ok2 c r k) (h' : Ok2 c r' k') : Ok2 c (fun x y H Q => r x y H Q ∨ r' x y H Q) (fun x y => match k x y with | .bad => k' x y | o => o) := by
  intro σ G H x y rx ry Q gh bh hx hy q
  dsimp only at q
  cases e : k rx ry with
  | bad => rw [e] at q; exact .inr (h' σ G H x y rx ry Q gh bh hx hy q)
  | ok o => rw [e] at q; exact .inl (h σ G H x y rx ry Q gh bh hx hy (by rw [e]; exact q))
  | ex o => rw [e] at q; exact .inl (h σ G H x y rx ry Q gh bh hx hy (by rw [e]; exact q))
def kAdd : Rv → Rv → Re Rv := fun x y => match x.d, y.d with
  | .i p, .i q => oki (p + q)
  | .s p, .s q => if p.length + q.length ≤ sizeLine then .ok (.sh (.s (p ++ q))) else .bad
  | .l p, .l q => if p.length + q.length ≤ sizeLine then .ok (.fr (.l (p ++ q))) else .bad
  | .t p, .t q => if p.length + q.length ≤ sizeLine then .ok (.sh (.t (p ++ q))) else .bad
  | _, _ => .bad
def rAddS : R2 := fun x y H Q => ∃ i j, x = .str i ∧ y = .str j ∧ i.length + j.length ≤ sizeLine ∧ Q (.str (i ++ j)) H
def rAddAll (K : PySem.W.Frag) : R2 := fun x y H Q => (rI0 (fun i j => .int (i + j)) x y H Q ∨ rAddS x y H Q) ∨ (rCat x y H Q ∨ rCatA K x y H Q)
theorem op_addAll : OpR X (binaryOp .Add) (rAddAll X.K) := OpR.or (OpR.or op_add op_add_str) (OpR.or op_cat op_catA)
theorem ok2_add : Ok2 c (rAddAll c.K) kAdd := by
  intro σ G H x y rx ry Q gh bh hx hy q
  unfold kAdd at q
  split at q
  · rename_i i j e1 e2
    exact .inl (.inl ⟨i, j, hx.int e1, hy.int e2, post_sh gh q (.i _)⟩)
  · rename_i i j e1 e2
    split at q
    · exact .inl (.inr ⟨i, j, hx.str e1, hy.str e2, by assumption, post_sh gh q (.s _)⟩)
    · exact q.elim
  · rename_i i j e1 e2
    split at q
    · obtain ⟨p, xs, h1, h2, h3⟩ := hx.lst gh e1
      obtain ⟨p', ys, h1', h2', h3'⟩ := hy.lst gh e2
      exact .inr (.inl ⟨p, p', xs, ys, h1, h1', h2, h2', by rw [h3.length, h3'.length]; assumption, post_lst bh gh q (h3.append h3')⟩)
    · exact q.elim
  · rename_i i j e1 e2
    split at q
    · obtain ⟨p, xs, h1, h2, h3⟩ := hx.tup e1
      obtain ⟨p', ys, h1', h2', h3'⟩ := hy.tup e2
      refine .inr (.inr ⟨p, p', xs, ys, h1, h1', SqT.of (gh _ _ h2), SqT.of (gh _ _ h2'), by rw [h3.length, h3'.length]; assumption, fun e => ?_, fun _ e => ?_, fun _ _ => post_tup gh q (h3.append h3')⟩)
      · subst e
        cases h3
        exact post_sh gh q (.t h2' (by simpa using h3'))
      · subst e
        cases h3'
        exact post_sh gh q (.t h2 (by simpa using h3))
    · exact q.elim
  · exact q.elim
theorem re_add (cy : Cy X c) (ha : PE X a (tE c f)) (hb : PE X b (tE c g)) : PE X (.BinOp a .Add b pos) (tE c (e2 kAdd f g)) := by
  refine re_op (r := rAddAll c.K) ?_ ok2_add ha hb
  rw [← cy.K]; exact op_addAll
def kSub : Rv → Rv → Re Rv := kI fun i j => oki (i - j)
theorem re_sub (ha : PE X a (tE c f)) (hb : PE X b (tE c g)) : PE X (.BinOp a .Sub b pos) (tE c (e2 kSub f g)) := re_op op_sub ok2_I0 ha hb
def kMul : Rv → Rv → Re Rv := fun x y => match x.d, y.d with
  | .i p, .i q => if (-(2 ^ 64) < p ∧ p < 2 ^ 64) ∨ (-(2 ^ 64) < q ∧ q < 2 ^ 64) then oki (p * q) else .bad
  | .l p, .i q => if -(2 ^ 63) ≤ q ∧ q < 2 ^ 63 ∧ p.length * q.toNat ≤ sizeLine then .ok (.fr (.l (List.replicate q.toNat p).flatten)) else .bad
  | _, _ => .bad
theorem Reps.rep {K : PySem.W.Frag} {G : Hp} {xs : List V} {ds : List D} (h : Reps K G xs ds) : ∀ n : Nat, Reps K G (List.replicate n xs).flatten (List.replicate n ds).flatten
  | 0 => .nil
  | n + 1 => by
    rw [List.replicate_succ, List.replicate_succ, List.flatten_cons, List.flatten_cons]
    exact h.append (Reps.rep h n)
theorem ok2_mul : Ok2 c (fun x y H Q => rI CMul (fun i j => .int (i * j)) x y H Q ∨ rRep x y H Q) kMul := by
  intro σ G H x y rx ry Q gh bh hx hy q
  unfold kMul at q
  split at q
  · rename_i i j e1 e2
    split at q
    · exact .inl ⟨i, j, hx.int e1, hy.int e2, by assumption, post_sh gh q (.i _)⟩
    · exact q.elim
  · rename_i i j e1 e2
    split at q
    · rename_i hc
      obtain ⟨p, xs, h1, h2, h3⟩ := hx.lst gh e1
      exact .inr ⟨p, j, xs, h1, hy.int e2, h2, hc.1, hc.2.1, by rw [h3.length]; exact hc.2.2, post_lst bh gh q (h3.rep _)⟩
    · exact q.elim
  · exact q.elim
theorem re_mul (ha : PE X a (tE c f)) (hb : PE X b (tE c g)) : PE X (.BinOp a .Mult b pos) (tE c (e2 kMul f g)) := re_op (OpR.or op_mul op_rep) ok2_mul ha hb
def kMod : Rv → Rv → Re Rv := kI fun i j => if 0 < j then oki (i % j) else .bad
theorem re_mod (ha : PE X a (tE c f)) (hb : PE X b (tE c g)) : PE X (.BinOp a .Mod b pos) (tE c (e2 kMod f g)) :=
  re_op op_mod (ok2_I (h := fun i j => i % j) fun i j => by by_cases hj : 0 < j <;> simp [hj]) ha hb
def kDiv : Rv → Rv → Re Rv := kI fun i j => if 0 < j ∧ j < 1073741824 then oki (i / j) else .bad
theorem re_div (ha : PE X a (tE c f)) (hb : PE X b (tE c g)) : PE X (.BinOp a .FloorDiv b pos) (tE c (e2 kDiv f g)) :=
  re_op op_fdiv (ok2_I (h := fun i j => i / j) fun i j => by
    by_cases hj : 0 < j ∧ j < 1073741824
    · left; rw [if_pos hj]; exact ⟨rfl, hj⟩
    · right; rw [if_neg hj]) ha hb
def kPow : Rv → Rv → Re Rv := kI fun i j => if 0 ≤ j ∧ j ≤ 1000000 ∧ i.natAbs < 2 ^ 64 then oki (i ^ j.toNat) else .bad
theorem re_pow (ha : PE X a (tE c f)) (hb : PE X b (tE c g)) : PE X (.BinOp a .Pow b pos) (tE c (e2 kPow f g)) :=
  re_op op_pow (ok2_I (h := fun i j => i ^ j.toNat) fun i j => by
    by_cases hj : 0 ≤ j ∧ j ≤ 1000000 ∧ i.natAbs < 2 ^ 64
    · left; rw [if_pos hj]; exact ⟨rfl, hj⟩
    · right; rw [if_neg hj]) ha hb
def kNeg : Rv → Re Rv := fun x => match x.d with | .i p => oki (-p) | _ => .bad
theorem re_neg (ha : PE X a (tE c f)) : PE X (.UnaryOp .USub a pos) (tE c (e1 kNeg f)) := by
  refine re_un un_neg ?_ ha
  intro σ G H x rx Q gh bh hx q
  unfold kNeg at q
  split at q
  · rename_i p e
    exact ⟨p, hx.int e, post_sh gh q (.i _)⟩
  · exact q.elim

def kLt : Rv → Rv → Re Rv := kI fun i j => okb (decide (i < j))
def kLe : Rv → Rv → Re Rv := kI fun i j => okb (decide (i ≤ j))
def kGt : Rv → Rv → Re Rv := kI fun i j => okb (decide (j < i))
def kGe : Rv → Rv → Re Rv := kI fun i j => okb (decide (j ≤ i))
structure CmpD (X : Cx) (c : LC) (op : CmpOp) (k : Rv → Rv → Re Rv) : Prop where
  ex : ∃ r : R2, OpR X (compareOp op) r ∧ Ok2 c r k
theorem cd_lt : CmpD X c .Lt kLt := ⟨_, op_lt, ok2_B0⟩
theorem cd_le : CmpD X c .LtE kLe := ⟨_, op_le, ok2_B0⟩
theorem cd_gt : CmpD X c .Gt kGt := ⟨_, op_gt, ok2_B0⟩
theorem cd_ge : CmpD X c .GtE kGe := ⟨_, op_ge, ok2_B0⟩
theorem re_cd {op : CmpOp} {k : Rv → Rv → Re Rv} (h : CmpD X c op k) (ha : PE X a (tE c f)) (hb : PE X b (tE c g)) (hm : behindInMarks op b = false) : PE X (.Compare a [op] [b] pos) (tE c (e2 k f g)) := by
  obtain ⟨r, h1, h2⟩ := h.ex
  exact re_cmp h1 h2 ha hb hm
def eCh (k k' : Rv → Rv → Re Rv) (f g h : FE) : FE := fun Γ => (f Γ).bind fun x => (g Γ).bind fun y => (k x y).bind fun z => match z with
  | .sh (.b true) => (h Γ).bind fun w => k' y w
  | .sh (.b false) => .ok (.sh (.b false))
  | _ => .bad
theorem re_chain {op op' : CmpOp} {k k' : Rv → Rv → Re Rv} {d : Expr} (h1 : CmpD X c op k) (h2 : CmpD X c op' k') (ha : PE X a (tE c f)) (hb : PE X b (tE c g)) (hd : PE X d (tE c h))
    (hm : lastMarks [op, op'] [b, d] = false := by with_unfolding_all rfl) : PE X (.Compare a [op, op'] [b, d] pos) (tE c (eCh k k' f g h)) := by
  obtain ⟨r, o1, k1⟩ := h1.ex
  obtain ⟨r', o2, k2⟩ := h2.ex
  refine PE.weak (pe_chain o1 o2 ha hb hd hm) ?_
  rintro σ H Q ⟨G, Γ, he, q⟩
  refine eE he q fun rx x G1 H1 e1 g1 v1 fr1 he1 q1 => ?_
  refine eE he1 q1 fun ry y G2 H2 e2 g2 v2 fr2 he2 q2 => ?_
  have v1' := v1.mono g2
  refine k1 σ G2 H2 x y rx ry _ he2.gh he2.bh v1' v2 ?_
  cases e : k rx ry with
  | bad => rw [e] at q2; exact q2
  | ex o => rw [e] at q2; exact q2
  | ok z =>
    rw [e] at q2
    simp only [Re.bind_ok] at q2
    intro v G3 H3 g3 v3 fr3
    have he3 := he2.mono g3
    split at q2
    · cases (Rep.bl_inv v3)
      refine ⟨true, rfl, ?_⟩
      rw [if_pos rfl]
      have q3 : Post c ((h Γ).bind fun w => k' ry w) σ G3 H3 Q := Post.later g3 q2
      refine eE he3 q3 fun rw' w G4 H4 e4 g4 v4 fr4 he4 q4 => ?_
      exact k2 σ G4 H4 y w ry rw' Q he4.gh he4.bh ((v2.mono g3).mono g4) v4 q4
    · cases (Rep.bl_inv v3)
      refine ⟨false, rfl, ?_⟩
      rw [if_neg Bool.false_ne_true]
      exact q2 _ G3 H3 g3 (.b false) True.intro
    · exact q2.elim
end
end Ly
end

section
set_option maxRecDepth 100000
namespace Ly
open PySem PySem.Spec L2
open PyProof.Rows hiding St
variable [Tb]

mutual
def D.py : D → PyData
  | .n => .none | .b x => .bool x | .i x => .int x | .s x => .str x
  | .l xs => .list (D.pys xs) | .t xs => .tuple (D.pys xs) | .z xs => .list (D.pys xs) | .zt xs => .tuple (D.pys xs)
  | .dk _ _ => .dict [] | .dt _ _ => .dict [] | .o _ => .none
def D.pys : List D → List PyData
  | [] => []
  | x :: xs => D.py x :: D.pys xs
end
def deq (x y : D) : Bool := PyData.eqv x.py y.py
def dok : Nat → D → Bool
  | _, .n => true | _, .b _ => true | _, .i _ => true | _, .s x => PyData.strOk x
  | n + 1, .l xs => xs.all (dok n) | n + 1, .t xs => xs.all (dok n) | n + 1, .zt xs => xs.all (dok n)
  | _, _ => false
theorem pys_map : ∀ xs : List D, D.pys xs = xs.map D.py
  | [] => rfl
  | x :: xs => by rw [D.pys, pys_map xs]; rfl
theorem dok_py : ∀ (n : Nat) (d : D), dok n d = true → d.py.canLay0 = true ∧ d.py.depth ≤ n := by
  intro n
  induction n with
  | zero =>
    intro d h
    cases d with
    | n => exact ⟨by rw [D.py, PyData.canLay0], by rw [D.py, PyData.depth] <;> exact Nat.zero_le _⟩
    | b x => exact ⟨by rw [D.py, PyData.canLay0], by rw [D.py, PyData.depth] <;> exact Nat.zero_le _⟩
    | i z => exact ⟨by rw [D.py, PyData.canLay0], by rw [D.py, PyData.depth] <;> exact Nat.zero_le _⟩
    | s x => exact ⟨by rw [D.py, PyData.canLay0]; exact h, by rw [D.py, PyData.depth] <;> exact Nat.zero_le _⟩
    | _ => cases h
  | succ n ih =>
    have all : ∀ xs : List D, xs.all (dok n) = true → PyData.canLayAll0 (D.pys xs) = true ∧ PyData.depthAll (D.pys xs) ≤ n := by
      intro xs
      induction xs with
      | nil => intro _; exact ⟨by rw [D.pys, PyData.canLayAll0], by rw [D.pys, PyData.depthAll]; exact Nat.zero_le _⟩
      | cons x xs ihx =>
        intro h
        rw [List.all_cons, Bool.and_eq_true] at h
        obtain ⟨h1, h2⟩ := ih x h.1
        obtain ⟨h3, h4⟩ := ihx h.2
        refine ⟨by rw [D.pys, PyData.canLayAll0, h1, h3]; rfl, ?_⟩
        rw [D.pys, PyData.depthAll]
        exact Nat.max_le.mpr ⟨h2, h4⟩
    intro d h
    cases d with
    | n => exact ⟨by rw [D.py, PyData.canLay0], by rw [D.py, PyData.depth] <;> exact Nat.zero_le _⟩
    | b x => exact ⟨by rw [D.py, PyData.canLay0], by rw [D.py, PyData.depth] <;> exact Nat.zero_le _⟩
    | i z => exact ⟨by rw [D.py, PyData.canLay0], by rw [D.py, PyData.depth] <;> exact Nat.zero_le _⟩
    | s x => exact ⟨by rw [D.py, PyData.canLay0]; exact h, by rw [D.py, PyData.depth] <;> exact Nat.zero_le _⟩
    | l xs =>
      obtain ⟨h1, h2⟩ := all xs h
      exact ⟨by rw [D.py, PyData.canLay0]; exact h1, by rw [D.py, PyData.depth]; omega⟩
    | t xs =>
      obtain ⟨h1, h2⟩ := all xs h
      exact ⟨by rw [D.py, PyData.canLay0]; exact h1, by rw [D.py, PyData.depth]; omega⟩
    | zt xs =>
      obtain ⟨h1, h2⟩ := all xs h
      exact ⟨by rw [D.py, PyData.canLay0]; exact h1, by rw [D.py, PyData.depth]; omega⟩
    | _ => cases h
theorem dok_shaped {n : Nat} {d : D} (h : dok n d = true) (hn : n ≤ 64) : SeqAt.shaped d.py = true := by
  obtain ⟨h1, h2⟩ := dok_py n d h
  unfold SeqAt.shaped
  rw [h1, Bool.true_and]
  exact decide_eq_true (Nat.le_trans h2 hn)
section
variable {K : PySem.W.Frag} {G : Hp}
theorem dp_of : ∀ (n : Nat) (d : D) (v : V), Rep K G v d → dok n d = true → Dp K G v d.py := by
  intro n
  induction n with
  | zero =>
    intro d v r h
    cases r with
    | n => rw [D.py]; exact .non
    | b x => rw [D.py]; exact .bl _
    | i z => rw [D.py]; exact .int _
    | s x => rw [D.py]; exact .str _
    | _ => cases h
  | succ n ih =>
    have all : ∀ (ds : List D) (vs : List V), Reps K G vs ds → ds.all (dok n) = true → DpAll K G vs (D.pys ds) := by
      intro ds
      induction ds with
      | nil => intro vs r _; cases r; rw [D.pys]; exact .nil
      | cons x xs ihx =>
        intro vs r h
        cases r with
        | cons r1 r2 =>
          rw [List.all_cons, Bool.and_eq_true] at h
          rw [D.pys]
          exact .cons (ih _ _ r1 h.1) (ihx _ r2 h.2)
    intro d v r h
    cases r with
    | n => rw [D.py]; exact .non
    | b x => rw [D.py]; exact .bl _
    | i z => rw [D.py]; exact .int _
    | s x => rw [D.py]; exact .str _
    | l h1 h2 => rw [D.py]; exact .lst (.of h1) (all _ _ h2 h)
    | t h1 h2 => rw [D.py]; exact .tup (SqT.of h1) (all _ _ h2 h)
    | zt h1 h2 => rw [D.py]; exact .tup h1 (all _ _ h2 h)
    | _ => cases h
theorem dpAll_of {n : Nat} : ∀ (ds : List D) (vs : List V), Reps K G vs ds → ds.all (dok n) = true → DpAll K G vs (D.pys ds)
  | [], _, .nil, _ => by rw [D.pys]; exact .nil
  | x :: xs, _, .cons r1 r2, h => by
    rw [List.all_cons, Bool.and_eq_true] at h
    rw [D.pys]
    exact .cons (dp_of n _ _ r1 h.1) (dpAll_of xs _ r2 h.2)
mutual
theorem Dp.up {G' : Hp} (e : Same G G') : ∀ {v : V} {d : PyData}, Dp K G v d → Dp K G' v d
  | _, _, .non => .non
  | _, _, .bl _ => .bl _
  | _, _, .int _ => .int _
  | _, _, .str _ => .str _
  | _, _, .lst h r => .lst (e.seq h) (DpAll.up e r)
  | _, _, .tup h r => .tup (Same.tup e h) (DpAll.up e r)
theorem DpAll.up {G' : Hp} (e : Same G G') : ∀ {v : List V} {d : List PyData}, DpAll K G v d → DpAll K G' v d
  | _, _, .nil => .nil
  | _, _, .cons h r => .cons (Dp.up e h) (DpAll.up e r)
end
end
section
variable {c : LC}
theorem RV.dp {G H : Hp} {v : V} {r : Rv} (gh : Same G H) (h : RV c G H v r) (n : Nat) (hd : dok (n + 1) r.d = true) : Dp c.K H v r.d.py := by
  cases r with
  | sh d => exact Dp.up gh (dp_of _ _ _ h hd)
  | fr d =>
    obtain ⟨p, rfl, _, _, o⟩ := h
    cases o with
    | l h1 h2 => show Dp c.K H _ (D.py (.l _)); rw [D.py]; exact .lst (.of h1) (DpAll.up gh (dpAll_of (n := n) _ _ h2 hd))
    | dk h1 _ h2 => cases hd
    | dt h1 _ h2 => cases hd
  | bo d =>
    obtain ⟨p, rfl, _, _, o⟩ := h
    cases o with
    | l h1 h2 => show Dp c.K H _ (D.py (.l _)); rw [D.py]; exact .lst (.of h1) (DpAll.up gh (dpAll_of (n := n) _ _ h2 hd))
    | dk h1 _ h2 => cases hd
    | dt h1 _ h2 => cases hd
def kEq : Rv → Rv → Re Rv := fun x y => if dok 12 x.d = true ∧ dok 12 y.d = true then okb (deq x.d y.d) else .bad
def kNe : Rv → Rv → Re Rv := fun x y => if dok 12 x.d = true ∧ dok 12 y.d = true then okb (!deq x.d y.d) else .bad
theorem ok2_eq : Ok2 c (rEqD c.K) kEq := by
  intro σ G H x y rx ry Q gh bh hx hy q
  unfold kEq at q
  split at q
  · rename_i hd
    exact ⟨_, _, hx.dp gh 11 hd.1, hy.dp gh 11 hd.2, dok_shaped hd.1 (by decide), dok_shaped hd.2 (by decide), post_sh gh q (.b _)⟩
  · exact q.elim
theorem ok2_ne : Ok2 c (rNeD c.K) kNe := by
  intro σ G H x y rx ry Q gh bh hx hy q
  unfold kNe at q
  split at q
  · rename_i hd
    exact ⟨_, _, hx.dp gh 11 hd.1, hy.dp gh 11 hd.2, dok_shaped hd.1 (by decide), dok_shaped hd.2 (by decide), post_sh gh q (.b _)⟩
  · exact q.elim
variable {X : Cx}
theorem cd_eq (cy : Cy X c) : CmpD X c .Eq kEq := ⟨_, cy.K ▸ op_eqD cy.un, ok2_eq⟩
theorem cd_ne (cy : Cy X c) : CmpD X c .NotEq kNe := ⟨_, cy.K ▸ op_neD cy.un, ok2_ne⟩
def isN : Rv → Bool
  | .sh .n => true | _ => false
def kIs (neg : Bool) : Rv → Rv → Re Rv := fun x y => match y with
  | .sh .n => okb (if neg then !isN x else isN x)
  | _ => .bad
theorem RV.isN {G H : Hp} {v : V} {r : Rv} (h : RV c G H v r) : decide (v = .non) = isN r := by
  cases r with
  | sh d =>
    have h : Rep c.K G v d := h
    cases h <;> rfl
  | fr d => obtain ⟨p, rfl, _⟩ := h; rfl
  | bo d => obtain ⟨p, rfl, _⟩ := h; rfl
end

section
variable {X : Cx} {c : LC} {a b e : Expr} {f g : FE} {ft gt : FT} {pos : Pos}
theorem re_isN {j pos'} (ha : PE X a (tE c f)) : PE X (.Compare a [.Is] [.Constant .none j pos'] pos) (tE c (e2 (kIs false) f (eC .n))) := by
  refine PE.weak (pe_cmp (pc_isN ha)) ?_
  rintro σ H Q ⟨G, Γ, he, q⟩
  refine eE he q fun rx x G1 H1 e1 g1 v1 fr1 he1 q1 => ?_
  have q1 : Post c (okb (isN rx)) σ G1 H1 Q := q1
  rw [v1.isN]
  exact post_sh he1.gh q1 (.b _)
theorem re_notN {j pos'} (ha : PE X a (tE c f)) : PE X (.Compare a [.IsNot] [.Constant .none j pos'] pos) (tE c (e2 (kIs true) f (eC .n))) := by
  refine PE.weak (pe_cmp (pc_notN ha)) ?_
  rintro σ H Q ⟨G, Γ, he, q⟩
  refine eE he q fun rx x G1 H1 e1 g1 v1 fr1 he1 q1 => ?_
  have q1 : Post c (okb (!isN rx)) σ G1 H1 Q := q1
  show Q (.bl (!decide (x = .non))) H1
  rw [v1.isN]
  exact post_sh he1.gh q1 (.b _)
def kB : Rv → Re Bool
  | .sh (.b x) => .ok x
  | _ => .bad
def tV (f : FE) : FT := fun Γ => (f Γ).bind kB
theorem kB_ok {G H : Hp} {v : V} {r : Rv} {σ : St} {Q : Bool → Hp → Prop} (gh : Same G H) (h : RV c G H v r) (q : PostT c (kB r) σ G H Q) : ∃ k, v = .bl k ∧ Q k H := by
  unfold kB at q
  split at q
  · cases (Rep.bl_inv h)
    exact ⟨_, rfl, q G H (.refl gh)⟩
  · exact q.elim
theorem rt_cmp {op : CmpOp} {k : Rv → Rv → Re Rv} (h : CmpD X c op k) (ha : PE X a (tE c f)) (hb : PE X b (tE c g)) (hm : behindInMarks op b = false) : PT X (.Compare a [op] [b] pos) (tT c (tV (e2 k f g))) := by
  obtain ⟨r, h1, h2⟩ := h.ex
  refine PT.weak (pt_cmpR h1 ha hb hm) ?_
  rintro σ H Q ⟨G, Γ, he, q⟩
  exact tE_2 h2 σ H _ ⟨G, Γ, he, by
    have q : PostT c ((e2 k f g Γ).bind kB) σ G H Q := q
    cases e : e2 k f g Γ with
    | bad => rw [e] at q; exact q
    | ex x => rw [e] at q; exact q
    | ok r =>
      rw [e] at q
      exact fun v G' H' g' rv _ => kB_ok g'.gh rv (PostT.later g' q)⟩
theorem tV_test {t : TE} (hp : PT X a (tTest t)) (ht : ∀ σ H Q, tE c f σ H Q → t σ H Q) : PT X a (tT c (tV f)) := by
  refine PT.weak hp ?_
  rintro σ H Q ⟨G, Γ, he, q⟩
  exact ht σ H _ ⟨G, Γ, he, by
    have q : PostT c ((f Γ).bind kB) σ G H Q := q
    cases e : f Γ with
    | bad => rw [e] at q; exact q
    | ex x => rw [e] at q; exact q
    | ok r =>
      rw [e] at q
      exact fun v G' H' g' rv _ => kB_ok g'.gh rv (PostT.later g' q)⟩
theorem chain_weak {k k' : Rv → Rv → Re Rv} {r r' : R2} {h : FE} (k1 : Ok2 c r k) (k2 : Ok2 c r' k') : ∀ σ H Q, tE c (eCh k k' f g h) σ H Q → tChain r r' (tE c f) (tE c g) (tE c h) σ H Q := by
  rintro σ H Q ⟨G, Γ, he, q⟩
  refine eE he q fun rx x G1 H1 e1 g1 v1 fr1 he1 q1 => ?_
  refine eE he1 q1 fun ry y G2 H2 e2 g2 v2 fr2 he2 q2 => ?_
  have v1' := v1.mono g2
  refine k1 σ G2 H2 x y rx ry _ he2.gh he2.bh v1' v2 ?_
  cases e : k rx ry with
  | bad => rw [e] at q2; exact q2
  | ex o => rw [e] at q2; exact q2
  | ok z =>
    rw [e] at q2
    simp only [Re.bind_ok] at q2
    intro v G3 H3 g3 v3 fr3
    have he3 := he2.mono g3
    split at q2
    · cases (Rep.bl_inv v3)
      refine ⟨true, rfl, ?_⟩
      rw [if_pos rfl]
      have q3 : Post c ((h Γ).bind fun w => k' ry w) σ G3 H3 Q := Post.later g3 q2
      refine eE he3 q3 fun rw' w G4 H4 e4 g4 v4 fr4 he4 q4 => ?_
      exact k2 σ G4 H4 y w ry rw' Q he4.gh he4.bh ((v2.mono g3).mono g4) v4 q4
    · cases (Rep.bl_inv v3)
      refine ⟨false, rfl, ?_⟩
      rw [if_neg Bool.false_ne_true]
      exact q2 _ G3 H3 g3 (.b false) True.intro
    · exact q2.elim
theorem rt_chain {op op' : CmpOp} {k k' : Rv → Rv → Re Rv} {d : Expr} {h : FE} (h1 : CmpD X c op k) (h2 : CmpD X c op' k') (ha : PE X a (tE c f)) (hb : PE X b (tE c g)) (hd : PE X d (tE c h))
    (hm : lastMarks [op, op'] [b, d] = false := by with_unfolding_all rfl) : PT X (.Compare a [op, op'] [b, d] pos) (tT c (tV (eCh k k' f g h))) := by
  obtain ⟨r, o1, k1⟩ := h1.ex
  obtain ⟨r', o2, k2⟩ := h2.ex
  exact tV_test (pt_chain o1 o2 ha hb hd hm) (chain_weak k1 k2)
theorem rt_val (ha : PE X a (tE c f)) (he : ∀ whole, isTrue a X.env whole = (do let v ← whole; standAt a.pos; holding [v] (truthy v)) := by intro _; rfl) : PT X a (tT c (tV f)) :=
  tV_test (t := tE c f) (PT.weak (pt_val ha he) fun σ H Q q => q) fun σ H Q q => q
def tNotF (f : FT) : FT := fun Γ => (f Γ).bind fun x => .ok (!x)
theorem rt_not (ha : PT X a (tT c ft)) : PT X (.UnaryOp .Not a pos) (tT c (tNotF ft)) := by
  refine PT.weak (pt_not ha) ?_
  rintro σ H Q ⟨G, Γ, he, q⟩
  refine tTT he q fun b G1 H1 e1 g1 he1 q1 => ?_
  exact q1 G1 H1 (.refl he1.gh)
def tAndF (f g : FT) : FT := fun Γ => (f Γ).bind fun x => if x = true then g Γ else .ok false
def tOrF (f g : FT) : FT := fun Γ => (f Γ).bind fun x => if x = true then .ok true else g Γ
theorem rw_and1 (ha : PT X a (tT c ft)) : PW X (.BoolOp .And [a] pos) (tT c ft) := pw_and1 ha
theorem rw_or1 (ha : PT X a (tT c ft)) : PW X (.BoolOp .Or [a] pos) (tT c ft) := pw_or1 ha
theorem PW.weak {e : Expr} {t t' : TT} (h : PW X e t) (w : ∀ σ H Q, t' σ H Q → t σ H Q) : PW X e t' := ⟨fun wh pins s σ H Q I q => h.run wh pins s σ H Q I (w _ _ _ q)⟩
theorem rw_and {rest : List Expr} (ha : PT X a (tT c ft)) (hb : PW X (.BoolOp .And (b :: rest) pos) (tT c gt)) : PW X (.BoolOp .And (a :: b :: rest) pos) (tT c (tAndF ft gt)) := by
  refine PW.weak (pw_and ha hb) ?_
  rintro σ H Q ⟨G, Γ, he, q⟩
  refine tTT he q fun k G1 H1 e1 g1 he1 q1 => ?_
  cases k with
  | true => rw [if_pos rfl]; exact ⟨G1, Γ, he1, q1⟩
  | false => rw [if_neg Bool.false_ne_true]; exact q1 G1 H1 (.refl he1.gh)
theorem rw_or {rest : List Expr} (ha : PT X a (tT c ft)) (hb : PW X (.BoolOp .Or (b :: rest) pos) (tT c gt)) : PW X (.BoolOp .Or (a :: b :: rest) pos) (tT c (tOrF ft gt)) := by
  refine PW.weak (pw_or ha hb) ?_
  rintro σ H Q ⟨G, Γ, he, q⟩
  refine tTT he q fun k G1 H1 e1 g1 he1 q1 => ?_
  cases k with
  | true => rw [if_pos rfl]; exact q1 G1 H1 (.refl he1.gh)
  | false => rw [if_neg Bool.false_ne_true]; exact ⟨G1, Γ, he1, q1⟩
def eAnd (f g : FE) : FE := fun Γ => (f Γ).bind fun x => match x with
  | .sh (.b true) => g Γ | .sh (.b false) => .ok (.sh (.b false)) | _ => .bad
def eOr (f g : FE) : FE := fun Γ => (f Γ).bind fun x => match x with
  | .sh (.b true) => .ok (.sh (.b true)) | .sh (.b false) => g Γ | _ => .bad
theorem re_one {op} (h : PE X a (tE c f)) : PE X (.BoolOp op [a] pos) (tE c f) := pe_one h
theorem re_and {rest : List Expr} (ha : PE X a (tE c f)) (hb : PE X (.BoolOp .And (b :: rest) pos) (tE c g)) : PE X (.BoolOp .And (a :: b :: rest) pos) (tE c (eAnd f g)) := by
  refine PE.weak (pe_and ha hb) ?_
  rintro σ H Q ⟨G, Γ, he, q⟩
  refine eE he q fun rx x G1 H1 e1 g1 v1 fr1 he1 q1 => ?_
  split at q1
  · cases (Rep.bl_inv v1); refine ⟨true, rfl, ?_⟩; rw [if_pos rfl]; exact ⟨G1, Γ, he1, q1⟩
  · cases (Rep.bl_inv v1); refine ⟨false, rfl, ?_⟩; rw [if_neg Bool.false_ne_true]; exact post_sh he1.gh q1 (.b _)
  · exact q1.elim
theorem re_or {rest : List Expr} (ha : PE X a (tE c f)) (hb : PE X (.BoolOp .Or (b :: rest) pos) (tE c g)) : PE X (.BoolOp .Or (a :: b :: rest) pos) (tE c (eOr f g)) := by
  refine PE.weak (pe_or ha hb) ?_
  rintro σ H Q ⟨G, Γ, he, q⟩
  refine eE he q fun rx x G1 H1 e1 g1 v1 fr1 he1 q1 => ?_
  split at q1
  · cases (Rep.bl_inv v1); refine ⟨true, rfl, ?_⟩; rw [if_pos rfl]; exact post_sh he1.gh q1 (.b _)
  · cases (Rep.bl_inv v1); refine ⟨false, rfl, ?_⟩; rw [if_neg Bool.false_ne_true]; exact ⟨G1, Γ, he1, q1⟩
  · exact q1.elim
def eNot (f : FE) : FE := fun Γ => (f Γ).bind fun x => match x with
  | .sh (.b k) => .ok (.sh (.b (!k))) | _ => .bad
theorem re_not (ha : PE X a (tE c f)) : PE X (.UnaryOp .Not a pos) (tE c (eNot f)) := by
  refine PE.weak (pe_not ha) ?_
  rintro σ H Q ⟨G, Γ, he, q⟩
  refine eE he q fun rx x G1 H1 e1 g1 v1 fr1 he1 q1 => ?_
  split at q1
  · cases (Rep.bl_inv v1); exact ⟨_, rfl, post_sh he1.gh q1 (.b _)⟩
  · exact q1.elim
def eIf (t : FT) (f g : FE) : FE := fun Γ => (t Γ).bind fun x => if x = true then f Γ else g Γ
theorem re_if {t : Expr} (hc : PT X t (tT c ft)) (ha : PE X a (tE c f)) (hb : PE X b (tE c g)) : PE X (.IfExp t a b pos) (tE c (eIf ft f g)) := by
  refine PE.weak (pe_ifExp hc ha hb) ?_
  rintro σ H Q ⟨G, Γ, he, q⟩
  refine tTE he q fun k G1 H1 e1 g1 he1 q1 => ?_
  cases k with
  | true => rw [if_pos rfl] at q1 ⊢; exact ⟨G1, Γ, he1, q1⟩
  | false => rw [if_neg Bool.false_ne_true] at q1 ⊢; exact ⟨G1, Γ, he1, q1⟩
end
end Ly
end

section
set_option maxRecDepth 100000
namespace Ly
open PySem PySem.Spec L2
open PyProof.Rows hiding St
variable [Tb]

theorem tE_bind0 {c : LC} {f : FE} {σ : St} {H : Hp} {G : Hp} {Γ : Env'} (he : EnvOk c G H σ Γ) {β : Type} {k : Rv → Re β} {R : VK}
    {P : Re β → Prop} (hb : P .bad → False) (hx : ∀ x, P (.ex x) → ∀ G' H', Gr G H G' H' → ExAt c (fun C d H' => c.W C d σ H') x G' H') (h : P ((f Γ).bind k))
    (hk : ∀ r v G' H', f Γ = .ok r → Gr G H G' H' → RV c G' H' v r → Fresh H v r → P (k r) → R v H') : tE c f σ H R := by
  refine ⟨G, Γ, he, ?_⟩
  cases e : f Γ with
  | bad => rw [e] at h; exact (hb h).elim
  | ex x => rw [e] at h; exact hx _ h
  | ok r =>
    intro v G' H' g rv fr
    rw [e] at h
    exact hk r v G' H' e g rv fr h
def share : Rv → Re D
  | .sh d => .ok d | .fr d => .ok d | .bo _ => .bad
theorem RV.share {c : LC} {G0 H0 G H : Hp} {v : V} {r : Rv} {d : D} (g : Gr G0 H0 G H) (h : RV c G H v r) (fr : Fresh H0 v r) (e : share r = .ok d) : ∃ G', Gr G0 H0 G' H ∧ Same G G' ∧ Rep c.K G' v d := by
  cases r with
  | sh d' => cases e; exact ⟨G, g, Same.refl _, h⟩
  | fr d' =>
    cases e
    obtain ⟨p, rfl, _, gp, o⟩ := h
    obtain ⟨p', e1, hp⟩ := fr
    cases e1
    obtain ⟨u, hu, pl, rp⟩ := o.rep gp
    exact ⟨_, g.freeze hp gp hu pl.1, fun b w q => by rw [upd_ne (ne_of_none q gp)]; exact q, rp⟩
  | bo d' => cases e
section
variable {X : Cx} {c : LC} {a b e : Expr} {es : List Expr} {f g h : FE} {fa : FA} {pos : Pos}
def aNil : FA := fun _ => .ok []
def aCons (f : FE) (g : FA) : FA := fun Γ => (f Γ).bind fun r => (share r).bind fun d => (g Γ).bind fun ds => .ok (d :: ds)
theorem ra_nil : PA X [] (tA c aNil) := PA.weak pa_nil fun σ H Q ⟨G, Γ, he, q⟩ => q [] G H (.refl he.gh) .nil
theorem ra_cons (ha : PE X e (tE c f)) (hr : PA X es (tA c fa)) (hs : starEach (e :: es) X.env = (false, eval e X.env) :: starEach es X.env := by rfl) : PA X (e :: es) (tA c (aCons f fa)) := by
  refine PA.weak (pa_cons ha hr hs) ?_
  rintro σ H Q ⟨G, Γ, he, q⟩
  refine tE_bind0 (P := fun r => PostA c r σ G H Q) he (fun h => h) (fun x h => h) q fun r v G1 H1 _ g1 v1 fr1 q1 => ?_
  cases e1 : share r with
  | bad => rw [e1] at q1; exact q1.elim
  | ex x => rw [e1] at q1; cases r <;> cases e1
  | ok d =>
    rw [e1] at q1
    obtain ⟨G2, g2, s2, rp⟩ := v1.share g1 fr1 e1
    refine tAA (he.mono g2) (PostA.later g2 q1) fun ds vs G3 H3 _ g3 rs he3 q3 => ?_
    exact q3 _ G3 H3 (.refl he3.gh) (.cons (rp.mono g3.gg) rs)

def eLst (f : FA) : FE := fun Γ => (f Γ).bind fun ds => if ds.length ≤ 16777216 then .ok (.fr (.l ds)) else .bad
theorem re_lst (ha : PA X es (tA c fa)) : PE X (.List es pos) (tE c (eLst fa)) := by
  refine PE.weak (pe_lst ha) ?_
  rintro σ H Q ⟨G, Γ, he, q⟩
  refine tAE he q fun ds vs G1 H1 _ g1 rs he1 q1 => ?_
  split at q1
  · exact ⟨by rw [rs.length, sizeLine_eq]; assumption, post_lst he1.bh he1.gh q1 rs⟩
  · exact q1.elim
def eTup (f : FA) : FE := fun Γ => (f Γ).bind fun ds => if ds.length ≤ 16777216 then .ok (.sh (.t ds)) else .bad
theorem re_tup {x1} (ha : PA X es (tA c fa)) : PE X (.Tuple es x1 pos) (tE c (eTup fa)) := by
  refine PE.weak (pe_tup ha) ?_
  rintro σ H Q ⟨G, Γ, he, q⟩
  refine tAE he q fun ds vs G1 H1 _ g1 rs he1 q1 => ?_
  split at q1
  · exact ⟨by rw [rs.length, sizeLine_eq]; assumption, post_tup he1.gh q1 rs⟩
  · exact q1.elim
def eDk0 : FE := fun _ => .ok (.fr (.dk [] []))
def eDt0 : FE := fun _ => .ok (.fr (.dt [] []))
theorem re_dk0 : PE X (.Dict [] [] pos) (tE c eDk0) := PE.weak pe_dnewK fun σ H Q ⟨G, Γ, he, q⟩ => post_dk0 he.bh he.gh q
theorem re_dt0 : PE X (.Dict [] [] pos) (tE c eDt0) := PE.weak pe_dnewT fun σ H Q ⟨G, Γ, he, q⟩ => post_dt0 he.bh he.gh q

def kIx : Rv → Rv → Re Rv := fun x y => match x.d, y.d with
  | .l ds, .i k => match atI ds k with | some d => .ok (.sh d) | none => .bad
  | .z ds, .i k => match atI ds k with | some d => .ok (.sh d) | none => .bad
  | .t ds, .i k => match atI ds k with | some d => .ok (.sh d) | none => .bad
  | .zt ds, .i k => match atI ds k with | some d => .ok (.sh d) | none => .bad
  | .s x, .i k => if x.length ≤ 16777216 then (match atI x.cps.toList k with | some ch => .ok (.sh (.s ⟨#[ch]⟩)) | none => .bad) else .bad
  | _, _ => .bad
theorem Reps.atI {K : PySem.W.Frag} {G : Hp} {xs : List V} {ds : List D} {k : Int} {d : D} (r : Reps K G xs ds) (h : L2.atI ds k = some d) : ∃ v, L2.atI xs k = some v ∧ Rep K G v d := by
  unfold L2.atI at h ⊢
  rw [r.length]
  cases e : ixN ds.length k with
  | none => rw [e] at h; cases h
  | some j => rw [e] at h; exact r.get' h
theorem ok2_ix : Ok2 c (rIx c.K) kIx := by
  intro σ G H x y rx ry Q gh bh hx hy q
  unfold kIx at q
  split at q
  · rename_i ds k e1 e2
    split at q
    · rename_i d hd
      obtain ⟨p, xs, h1, h2, h3⟩ := hx.lst gh e1
      obtain ⟨v, hv, rv⟩ := h3.atI hd
      exact .inl ⟨p, xs, k, v, h1, hy.int e2, .of h2, hv, post_sh gh q rv⟩
    · exact q.elim
  · rename_i ds k e1 e2
    split at q
    · rename_i d hd
      obtain ⟨p, xs, h1, h2, h3⟩ := hx.zl e1
      obtain ⟨v, hv, rv⟩ := h3.atI hd
      exact .inl ⟨p, xs, k, v, h1, hy.int e2, gh.seq h2, hv, post_sh gh q rv⟩
    · exact q.elim
  · rename_i ds k e1 e2
    split at q
    · rename_i d hd
      obtain ⟨p, xs, h1, h2, h3⟩ := hx.tup e1
      obtain ⟨v, hv, rv⟩ := h3.atI hd
      exact .inr (.inl ⟨p, xs, k, v, h1, hy.int e2, SqT.of (gh _ _ h2), hv, post_sh gh q rv⟩)
    · exact q.elim
  · rename_i ds k e1 e2
    split at q
    · rename_i d hd
      obtain ⟨p, xs, h1, h2, h3⟩ := hx.ztup e1
      obtain ⟨v, hv, rv⟩ := h3.atI hd
      exact .inr (.inl ⟨p, xs, k, v, h1, hy.int e2, Same.tup gh h2, hv, post_sh gh q rv⟩)
    · exact q.elim
  · rename_i z k e1 e2
    split at q
    · split at q
      · rename_i hz _ ch hd
        exact .inr (.inr ⟨z, k, ch, hx.str e1, hy.int e2, by rw [sizeLine_eq]; exact hz, hd, post_sh gh q (.s _)⟩)
      · exact q.elim
    · exact q.elim
  · exact q.elim
theorem re_ix (cy : Cy X c) (ha : PE X a (tE c f)) (hb : PE X b (tE c g)) (hs : PlainIx b := by intro _ _; rfl) : PE X (.Subscript a b pos) (tE c (e2 kIx f g)) := by
  have hr : IxR X (rIx c.K) := by rw [← cy.K]; exact ix_seq
  exact PE.weak (pe_ix hr ha hb hs) (tE_2 ok2_ix)

abbrev FO := Env' → Re (Option Int)
def oNo : FO := fun _ => .ok none
def oIs (f : FE) : FO := fun Γ => (f Γ).bind fun r => match r with | .sh (.i k) => .ok (some k) | _ => .bad
def PostO (c : LC) (re : Re (Option Int)) (σ : St) (G H : Hp) (Q : Option Int → Hp → Prop) : Prop := match re with
  | .ok r => ∀ G' H', Gr G H G' H' → Q r H'
  | .ex e => ∀ G' H', Gr G H G' H' → ExAt c (fun C d H' => c.W C d σ H') e G' H'
  | .bad => False
def tO (c : LC) (f : FO) : TO := fun σ H Q => ∃ G Γ, EnvOk c G H σ Γ ∧ PostO c (f Γ) σ G H Q
theorem PO.weak {X : Cx} {e : Option Expr} {t t' : TO} (h : PO X e t) (w : ∀ σ H Q, t' σ H Q → t σ H Q) : PO X e t' := ⟨fun pins s σ H Q I q => h.run pins s σ H Q I (w _ _ _ q)⟩
theorem PostO.later {re : Re (Option Int)} {σ : St} {G H G1 H1 : Hp} {Q : Option Int → Hp → Prop} (g : Gr G H G1 H1) (h : PostO c re σ G H Q) : PostO c re σ G1 H1 Q := by
  cases re with
  | bad => exact h
  | ex x => exact Post.ex_later g h
  | ok r => exact fun G2 H2 g2 => h G2 H2 (g.trans g2)
theorem ro_no : PO X none (tO c oNo) := PO.weak po_none fun σ H Q ⟨G, Γ, he, q⟩ => q G H (.refl he.gh)
theorem ro_is (ha : PE X e (tE c f)) : PO X (some e) (tO c (oIs f)) := by
  refine PO.weak (po_some ha) ?_
  rintro σ H Q ⟨G, Γ, he, q⟩
  refine tE_bind (P := fun r G H => PostO c r σ G H Q) he (fun _ _ h => h) (fun _ _ _ h => h) (fun _ _ _ _ _ g h => h.later g) q fun r v G1 H1 _ g1 v1 _ he1 q1 => ?_
  split at q1
  · exact ⟨_, Rep.int_inv v1, q1 G1 H1 (.refl he1.gh)⟩
  · exact q1.elim
theorem tO_bind {f : FO} {σ : St} {H : Hp} {G : Hp} {Γ : Env'} {Q : VK} (he : EnvOk c G H σ Γ) {k : Option Int → Re Rv} {R : Option Int → Hp → Prop}
    (h : Post c ((f Γ).bind k) σ G H Q) (hk : ∀ r G' H', Gr G H G' H' → EnvOk c G' H' σ Γ → Post c (k r) σ G' H' Q → R r H') : tO c f σ H R := by
  refine ⟨G, Γ, he, ?_⟩
  cases e : f Γ with
  | bad => rw [e] at h; exact h.elim
  | ex x => rw [e] at h; exact h
  | ok r =>
    intro G' H' g
    rw [e] at h
    exact hk r G' H' g (he.mono g) (Post.later g h)
def cut {α : Type} (xs : List α) (lo hi : Option Int) : List α := (xs.drop (HT.sIx xs.length 0 lo)).take (HT.sIx xs.length xs.length hi - HT.sIx xs.length 0 lo)
def kSl (r : Rv) (lo hi : Option Int) : Re Rv := match r.d with
  | .l ds => .ok (.fr (.l (cut ds lo hi)))
  | .z ds => .ok (.fr (.l (cut ds lo hi)))
  | .t ds => .ok (.sh (.t (cut ds lo hi)))
  | .s x => if x.length ≤ 16777216 then .ok (.sh (.s (cutS x lo hi))) else .bad
  | _ => .bad
def eSl (f : FE) (lo hi : FO) : FE := fun Γ => (f Γ).bind fun r => (lo Γ).bind fun l => (hi Γ).bind fun h => kSl r l h
theorem Reps.cut {K : PySem.W.Frag} {G : Hp} {xs : List V} {ds : List D} (r : Reps K G xs ds) (lo hi : Option Int) : Reps K G (cutV xs lo hi) (cut ds lo hi) := by
  unfold cutV Ly.cut
  rw [r.length]
  exact (r.drop _).take _
theorem cut_whole {α : Type} {xs : List α} {lo hi : Option Int} (h : HT.sIx xs.length 0 lo = 0 ∧ HT.sIx xs.length xs.length hi = xs.length) : cut xs lo hi = xs := by
  unfold cut
  rw [h.1, h.2]
  simp
theorem re_sl (cy : Cy X c) {lo hi : Option Expr} {fl fh : FO} {p2 : Pos} (ha : PE X e (tE c f)) (hl : PO X lo (tO c fl)) (hu : PO X hi (tO c fh)) : PE X (.Subscript e (.Slice lo hi none p2) pos) (tE c (eSl f fl fh)) := by
  have hr : SlR X (fun x lo hi H Q => (rSlL c.K x lo hi H Q ∨ rSlS x lo hi H Q) ∨ rSlA c.K x lo hi H Q) := by
    rw [← cy.K]; exact SlR.or (SlR.or sl_list sl_str) sl_tupA
  refine PE.weak (pe_slice hr ha hl hu) ?_
  rintro σ H Q ⟨G, Γ, he, q⟩
  refine eE he q fun r v G1 H1 _ g1 v1 _ he1 q1 => ?_
  refine tO_bind he1 q1 fun l G2 H2 g2 he2 q2 => ?_
  refine tO_bind he2 q2 fun u G3 H3 g3 he3 q3 => ?_
  have v3 := (v1.mono g2).mono g3
  unfold kSl at q3
  split at q3
  · rename_i ds ed
    obtain ⟨p, xs, e1, e2, e3⟩ := v3.lst he3.gh ed
    exact .inl (.inl ⟨p, xs, e1, .of e2, post_lst he3.bh he3.gh q3 (e3.cut l u)⟩)
  · rename_i ds ed
    obtain ⟨p, xs, e1, e2, e3⟩ := v3.zl ed
    exact .inl (.inl ⟨p, xs, e1, he3.gh.seq e2, post_lst he3.bh he3.gh q3 (e3.cut l u)⟩)
  · rename_i ds ed
    obtain ⟨p, xs, e1, e2, e3⟩ := v3.tup ed
    refine .inr ⟨p, xs, e1, SqT.of (he3.gh _ _ e2), fun hw => ?_, fun _ => post_tup he3.gh q3 (e3.cut l u)⟩
    refine post_sh he3.gh q3 (.t e2 ?_)
    have hw' := hw
    rw [e3.length] at hw'
    rw [cut_whole hw']
    exact e3
  · rename_i z ed
    split at q3
    · exact .inl (.inr ⟨z, v3.str ed, by rw [sizeLine_eq]; assumption, post_sh he3.gh q3 (.s _)⟩)
    · exact q3.elim
  · exact q3.elim
def kRev : Rv → Re Rv := fun x => match x.d with
  | .l ds => .ok (.fr (.l ds.reverse))
  | .z ds => .ok (.fr (.l ds.reverse))
  | _ => .bad
theorem re_rev (cy : Cy X c) {k : Nat} {p1 p2 p3 : Pos} (ha : PE X e (tE c f)) : PE X (.Subscript e (.Slice none none (some (.UnaryOp .USub (.Constant (.int 1) k p1) p2)) p3) pos) (tE c (e1 kRev f)) := by
  refine PE.weak (pe_revL ha) ?_
  rintro σ H Q ⟨G, Γ, he, q⟩
  refine eE he q fun r v G1 H1 _ g1 v1 _ he1 q1 => ?_
  rw [cy.K]
  unfold kRev at q1
  split at q1
  · rename_i ds ed
    obtain ⟨p, xs, e1, e2, e3⟩ := v1.lst he1.gh ed
    exact ⟨p, xs, e1, .of e2, post_lst he1.bh he1.gh q1 e3.reverse⟩
  · rename_i ds ed
    obtain ⟨p, xs, e1, e2, e3⟩ := v1.zl ed
    exact ⟨p, xs, e1, he1.gh.seq e2, post_lst he1.bh he1.gh q1 e3.reverse⟩
  · exact q1.elim

def OkC1 (c : LC) (r : List V → Hp → VK → Prop) (k : Rv → Re Rv) : Prop := ∀ (σ : St) (G H : Hp) (x : V) (rx : Rv) (Q : VK), Same G H → Kept c.B H → RV c G H x rx → Post c (k rx) σ G H Q → r [x] H Q
def OkC2 (c : LC) (r : List V → Hp → VK → Prop) (k : Rv → Rv → Re Rv) : Prop := ∀ (σ : St) (G H : Hp) (x y : V) (rx ry : Rv) (Q : VK), Same G H → Kept c.B H → RV c G H x rx → RV c G H y ry → Post c (k rx ry) σ G H Q → r [x, y] H Q
theorem tE_c1 {k : Rv → Re Rv} {r : List V → Hp → VK → Prop} (hk : OkC1 c r k) : ∀ σ H Q, tE c (e1 k f) σ H Q → tCB r (tCons (tE c f) tNil) σ H Q := by
  rintro σ H Q ⟨G, Γ, he, q⟩
  exact eE he q fun rx x G1 H1 _ g1 v1 fr1 he1 q1 => hk σ G1 H1 x rx Q he1.gh he1.bh v1 q1
theorem tE_c2 {k : Rv → Rv → Re Rv} {r : List V → Hp → VK → Prop} (hk : OkC2 c r k) : ∀ σ H Q, tE c (e2 k f g) σ H Q → tCB r (tCons (tE c f) (tCons (tE c g) tNil)) σ H Q := by
  rintro σ H Q ⟨G, Γ, he, q⟩
  refine eE he q fun rx x G1 H1 e1 g1 v1 fr1 he1 q1 => ?_
  refine eE he1 q1 fun ry y G2 H2 e2 g2 v2 fr2 he2 q2 => ?_
  exact hk σ G2 H2 x y rx ry Q he2.gh he2.bh (v1.mono g2) v2 q2
theorem re_b1 {x : Str} {p : Pos} {id : String} {r : List V → Hp → VK → Prop} {k : Rv → Re Rv} (hc : CallR X (.builtin id) r) (hk : OkC1 c r k) (hg : Gl X x) (hm : X.mg x = none) (hv : bootBuiltins x = some (.builtin id)) (ha : PE X a (tE c f))
    (hn : x ≠ "__name__" := by decide) (hdb : (x == ("__debug__" : Str)) = false := by decide) (hs : starEach [a] X.env = [(false, eval a X.env)] := by rfl) : PE X (.Call (.Name x p) [a] [] pos) (tE c (e1 k f)) :=
  PE.weak (pe_callB hc hg hm hv (pa_cons ha pa_nil hs) hn hdb hs) (tE_c1 hk)
theorem re_t1 {x : Str} {p : Pos} {id : String} {r : List V → Hp → VK → Prop} {k : Rv → Re Rv} (hc : CallR X (.type id) r) (hk : OkC1 c r k) (hg : Gl X x) (hm : X.mg x = none) (hv : bootBuiltins x = some (.type id)) (ha : PE X a (tE c f))
    (hn : x ≠ "__name__" := by decide) (hdb : (x == ("__debug__" : Str)) = false := by decide) (hs : starEach [a] X.env = [(false, eval a X.env)] := by rfl) : PE X (.Call (.Name x p) [a] [] pos) (tE c (e1 k f)) :=
  PE.weak (pe_callTy hc hg hm hv (pa_cons ha pa_nil hs) hn hdb hs) (tE_c1 hk)
theorem re_b2 {x : Str} {p : Pos} {id : String} {r : List V → Hp → VK → Prop} {k : Rv → Rv → Re Rv} (hc : CallR X (.builtin id) r) (hk : OkC2 c r k) (hg : Gl X x) (hm : X.mg x = none) (hv : bootBuiltins x = some (.builtin id)) (ha : PE X a (tE c f)) (hb : PE X b (tE c g))
    (hn : x ≠ "__name__" := by decide) (hdb : (x == ("__debug__" : Str)) = false := by decide) (hs : starEach [a, b] X.env = (false, eval a X.env) :: starEach [b] X.env := by rfl) (hs2 : starEach [b] X.env = [(false, eval b X.env)] := by rfl)
    (hpl : (backTo pos (starEach [b] X.env)).any (·.1) = false := by rfl) : PE X (.Call (.Name x p) [a, b] [] pos) (tE c (e2 k f g)) :=
  PE.weak (pe_callB hc hg hm hv (pa_cons ha (pa_cons hb pa_nil hs2) hs) hn hdb hs hpl) (tE_c2 hk)
def kLen : Rv → Re Rv := fun x => match x.d with
  | .l ds => oki ds.length | .z ds => oki ds.length | .t ds => oki ds.length
  | .s y => if y.length ≤ 16777216 then oki y.length else .bad
  | _ => .bad
theorem okc_len : OkC1 c (fun xs H Q => ∃ x n, xs = [x] ∧ LenV c.K x H n ∧ Q (.int n) H) kLen := by
  intro σ G H x rx Q gh bh hx q
  unfold kLen at q
  split at q
  · rename_i ds e
    obtain ⟨p, xs, e1, e2, e3⟩ := hx.lst gh e
    subst e1
    exact ⟨_, ds.length, rfl, .inl ⟨xs, .of e2, e3.length.symm⟩, post_sh gh q (.i _)⟩
  · rename_i ds e
    obtain ⟨p, xs, e1, e2, e3⟩ := hx.zl e
    subst e1
    exact ⟨_, ds.length, rfl, .inl ⟨xs, gh.seq e2, e3.length.symm⟩, post_sh gh q (.i _)⟩
  · rename_i ds e
    obtain ⟨p, xs, e1, e2, e3⟩ := hx.tup e
    subst e1
    exact ⟨_, ds.length, rfl, .inr ⟨xs, SqT.of (gh _ _ e2), e3.length.symm⟩, post_sh gh q (.i _)⟩
  · rename_i y e
    split at q
    · cases hx.str e
      exact ⟨_, y.length, rfl, ⟨by rw [sizeLine_eq]; assumption, rfl⟩, post_sh gh q (.i _)⟩
    · exact q.elim
  · exact q.elim
theorem re_len (cy : Cy X c) {p : Pos} (hg : Gl X "len") (hm : X.mg "len" = none) (ha : PE X a (tE c f)) (hs : starEach [a] X.env = [(false, eval a X.env)] := by rfl) : PE X (.Call (.Name "len" p) [a] [] pos) (tE c (e1 kLen f)) :=
  re_b1 (r := fun xs H Q => ∃ x n, xs = [x] ∧ LenV c.K x H n ∧ Q (.int n) H) (by rw [← cy.K]; exact call_len) okc_len hg hm boot_len ha (by decide) (by decide) hs
def kAbs : Rv → Re Rv := fun x => match x.d with | .i p => oki (if p < 0 then -p else p) | _ => .bad
theorem re_abs {p : Pos} (hg : Gl X "abs") (hm : X.mg "abs" = none) (ha : PE X a (tE c f)) (hs : starEach [a] X.env = [(false, eval a X.env)] := by rfl) : PE X (.Call (.Name "abs" p) [a] [] pos) (tE c (e1 kAbs f)) := by
  refine re_b1 call_abs ?_ hg hm (by decide +kernel) ha (by decide) (by decide) hs
  intro σ G H x rx Q gh bh hx q
  unfold kAbs at q
  split at q
  · rename_i k e
    exact ⟨k, by rw [hx.int e], post_sh gh q (.i _)⟩
  · exact q.elim
def kMax2 : Rv → Rv → Re Rv := kI fun i j => oki (if j > i then j else i)
def kMin2 : Rv → Rv → Re Rv := kI fun i j => oki (if j < i then j else i)
theorem re_max2 (cy : Cy X c) {p : Pos} (hg : Gl X "max") (hm : X.mg "max" = none) (ha : PE X a (tE c f)) (hb : PE X b (tE c g)) (hs : starEach [a, b] X.env = (false, eval a X.env) :: starEach [b] X.env := by rfl) (hs2 : starEach [b] X.env = [(false, eval b X.env)] := by rfl)
    (hpl : (backTo pos (starEach [b] X.env)).any (·.1) = false := by rfl) : PE X (.Call (.Name "max" p) [a, b] [] pos) (tE c (e2 kMax2 f g)) := by
  refine re_b2 (call_max2 cy.calm) ?_ hg hm (by decide +kernel) ha hb (by decide) (by decide) hs hs2 hpl
  intro σ G H x y rx ry Q gh bh hx hy q
  unfold kMax2 kI at q
  split at q
  · rename_i i j e e'
    exact ⟨i, j, by rw [hx.int e, hy.int e'], post_sh gh q (.i _)⟩
  · exact q.elim
theorem re_min2 (cy : Cy X c) {p : Pos} (hg : Gl X "min") (hm : X.mg "min" = none) (ha : PE X a (tE c f)) (hb : PE X b (tE c g)) (hs : starEach [a, b] X.env = (false, eval a X.env) :: starEach [b] X.env := by rfl) (hs2 : starEach [b] X.env = [(false, eval b X.env)] := by rfl)
    (hpl : (backTo pos (starEach [b] X.env)).any (·.1) = false := by rfl) : PE X (.Call (.Name "min" p) [a, b] [] pos) (tE c (e2 kMin2 f g)) := by
  refine re_b2 (call_min2 cy.calm) ?_ hg hm (by decide +kernel) ha hb (by decide) (by decide) hs hs2 hpl
  intro σ G H x y rx ry Q gh bh hx hy q
  unfold kMin2 kI at q
  split at q
  · rename_i i j e e'
    exact ⟨i, j, by rw [hx.int e, hy.int e'], post_sh gh q (.i _)⟩
  · exact q.elim
def kInt : Rv → Re Rv := fun x => match x.d with | .i k => oki k | .b k => oki (if k then 1 else 0) | _ => .bad
theorem re_toInt {p : Pos} (hg : Gl X "int") (hm : X.mg "int" = none) (ha : PE X a (tE c f)) (hs : starEach [a] X.env = [(false, eval a X.env)] := by rfl) : PE X (.Call (.Name "int" p) [a] [] pos) (tE c (e1 kInt f)) := by
  refine re_t1 call_int1 ?_ hg hm (by decide +kernel) ha (by decide) (by decide) hs
  intro σ G H x rx Q gh bh hx q
  unfold kInt at q
  split at q
  · rename_i k e
    exact .inl ⟨k, by rw [hx.int e], post_sh gh q (.i _)⟩
  · rename_i k e
    exact .inr ⟨k, by rw [hx.bl e], post_sh gh q (.i _)⟩
  · exact q.elim
def kList : Rv → Re Rv := fun x => match x.d with
  | .l ds => .ok (.fr (.l ds)) | .z ds => .ok (.fr (.l ds)) | .t ds => .ok (.fr (.l ds)) | _ => .bad
theorem re_list (cy : Cy X c) {p : Pos} (hg : Gl X "list") (hm : X.mg "list" = none) (ha : PE X a (tE c f)) (hs : starEach [a] X.env = [(false, eval a X.env)] := by rfl) : PE X (.Call (.Name "list" p) [a] [] pos) (tE c (e1 kList f)) := by
  refine re_t1 (r := fun xs H Q => ∃ p ys, xs = [.ref p] ∧ (SqL c.K H p ys ∨ SqT c.K H p ys) ∧ ∀ l, H l = none → Q (.ref l) (upd H l (.lst ys))) (by rw [← cy.K]; exact call_list_of) ?_ hg hm (by decide +kernel) ha (by decide) (by decide) hs
  intro σ G H x rx Q gh bh hx q
  unfold kList at q
  split at q
  · rename_i ds e
    obtain ⟨p, xs, e1, e2, e3⟩ := hx.lst gh e
    exact ⟨p, xs, by rw [e1], .inl (.of e2), post_lst bh gh q e3⟩
  · rename_i ds e
    obtain ⟨p, xs, e1, e2, e3⟩ := hx.zl e
    exact ⟨p, xs, by rw [e1], .inl (gh.seq e2), post_lst bh gh q e3⟩
  · rename_i ds e
    obtain ⟨p, xs, e1, e2, e3⟩ := hx.tup e
    exact ⟨p, xs, by rw [e1], .inr (SqT.of (gh _ _ e2)), post_lst bh gh q e3⟩
  · exact q.elim
def kTuple : Rv → Re Rv := fun x => match x.d with
  | .l ds => .ok (.sh (.t ds)) | .z ds => .ok (.sh (.t ds)) | .t ds => .ok (.sh (.t ds)) | _ => .bad
theorem re_tuple (cy : Cy X c) {p : Pos} (hg : Gl X "tuple") (hm : X.mg "tuple" = none) (ha : PE X a (tE c f)) (hs : starEach [a] X.env = [(false, eval a X.env)] := by rfl) : PE X (.Call (.Name "tuple" p) [a] [] pos) (tE c (e1 kTuple f)) := by
  refine re_t1 (r := fun xs H Q => ∃ p ys, xs = [.ref p] ∧ ((SqL c.K H p ys ∧ ∀ l, H l = none → Q (.ref l) (upd H l (.tup ys))) ∨ (SqT c.K H p ys ∧ Q (.ref p) H))) (by rw [← cy.K]; exact call_tuple_of) ?_ hg hm (by decide +kernel) ha (by decide) (by decide) hs
  intro σ G H x rx Q gh bh hx q
  unfold kTuple at q
  split at q
  · rename_i ds e
    obtain ⟨p, xs, e1, e2, e3⟩ := hx.lst gh e
    exact ⟨p, xs, by rw [e1], .inl ⟨.of e2, post_tup gh q e3⟩⟩
  · rename_i ds e
    obtain ⟨p, xs, e1, e2, e3⟩ := hx.zl e
    exact ⟨p, xs, by rw [e1], .inl ⟨gh.seq e2, post_tup gh q e3⟩⟩
  · rename_i ds e
    obtain ⟨p, xs, e1, e2, e3⟩ := hx.tup e
    exact ⟨p, xs, by rw [e1], .inr ⟨SqT.of (gh _ _ e2), by rw [← e1]; refine post_sh gh q ?_; rw [e1]; exact .t e2 e3⟩⟩
  · exact q.elim
def rgD (a b : Int) : List D := (List.range (b - a).toNat).map fun i => D.i (a + (i : Nat))
def rgOk (a b : Int) : Bool := decide (-(2 ^ 62) ≤ a ∧ a < 2 ^ 62 ∧ -(2 ^ 62) ≤ b ∧ b < 2 ^ 62 ∧ (b - a).toNat ≤ 16777216)
def kLr : Int → Int → Re Rv := fun i j => if rgOk i j = true then .ok (.fr (.l (rgD i j))) else .bad
theorem Reps.rg {K : PySem.W.Frag} {G : Hp} (a b : Int) : Reps K G (rgV a b) (rgD a b) := by
  have h : rgV a b = ((List.range (b - a).toNat).map fun i => a + ((i : Nat) : Int)).map V.int := by unfold rgV; rw [List.map_map]; rfl
  have h' : rgD a b = ((List.range (b - a).toNat).map fun i => a + ((i : Nat) : Int)).map D.i := by unfold rgD; rw [List.map_map]; rfl
  rw [h, h']
  exact Reps.ofInts _
theorem rgOk_ok {a b : Int} (h : rgOk a b = true) : RgOk a b := by
  obtain ⟨h1, h2, h3, h4, h5⟩ := of_decide_eq_true h
  exact ⟨h1, h2, h3, h4, by omega⟩
theorem re_listR1 (cy : Cy X c) {p p' : Pos} {ps : Pos} (hl : Gl X "list") (hml : X.mg "list" = none) (hg : Gl X "range") (hm : X.mg "range" = none) (ha : PE X a (tE c f)) (hs : starEach [a] X.env = [(false, eval a X.env)] := by rfl)
    (hs' : starEach [.Call (.Name "range" p') [a] [] ps] X.env = [(false, eval (.Call (.Name "range" p') [a] [] ps) X.env)] := by rfl) :
    PE X (.Call (.Name "list" p) [.Call (.Name "range" p') [a] [] ps] [] pos) (tE c (e1 (fun r => match r.d with | .i j => kLr 0 j | _ => .bad) f)) := by
  refine PE.weak (pe_listRg cy.calm hl hml (prg_1 hg hm ha hs) hs') ?_
  rintro σ H Q ⟨G, Γ, he, q⟩
  refine eE he q fun rx x G1 H1 _ g1 v1 fr1 he1 q1 => ?_
  split at q1
  · rename_i j e
    unfold kLr at q1
    split at q1
    · rename_i hr
      exact ⟨j, v1.int e, rgOk_ok hr, post_lst he1.bh he1.gh q1 (.rg _ _)⟩
    · exact q1.elim
  · exact q1.elim
theorem re_listR2 (cy : Cy X c) {p p' : Pos} {ps : Pos} (hl : Gl X "list") (hml : X.mg "list" = none) (hg : Gl X "range") (hm : X.mg "range" = none) (ha : PE X a (tE c f)) (hb : PE X b (tE c g))
    (hs : starEach [a, b] X.env = (false, eval a X.env) :: starEach [b] X.env := by rfl) (hs2 : starEach [b] X.env = [(false, eval b X.env)] := by rfl) (hpl : (backTo ps (starEach [b] X.env)).any (·.1) = false := by rfl)
    (hs' : starEach [.Call (.Name "range" p') [a, b] [] ps] X.env = [(false, eval (.Call (.Name "range" p') [a, b] [] ps) X.env)] := by rfl) :
    PE X (.Call (.Name "list" p) [.Call (.Name "range" p') [a, b] [] ps] [] pos) (tE c (e2 (kI kLr) f g)) := by
  refine PE.weak (pe_listRg cy.calm hl hml (prg_2 hg hm ha hb hs hs2 hpl) hs') ?_
  rintro σ H Q ⟨G, Γ, he, q⟩
  refine eE he q fun rx x G1 H1 _ g1 v1 fr1 he1 q1 => ?_
  refine eE he1 q1 fun ry y G2 H2 e2 g2 v2 fr2 he2 q2 => ?_
  unfold kI at q2
  split at q2
  · rename_i i j e e'
    unfold kLr at q2
    split at q2
    · rename_i hr
      exact ⟨i, j, (v1.mono g2).int e, v2.int e', rgOk_ok hr, post_lst he2.bh he2.gh q2 (.rg _ _)⟩
    · exact q2.elim
  · exact q2.elim
end
end Ly
end

section
set_option maxRecDepth 100000
namespace Ly
open PySem PySem.Spec L2
open PyProof.Rows hiding St
variable [Tb]

structure Ok0 (G H : Hp) : Prop where
  gh : Same G H
  gt : NoT G
  tb : LamX.Tabs Tb.T H
theorem EnvOk.ok0 {c : LC} {G H : Hp} {σ : St} {Γ : Env'} (e : EnvOk c G H σ Γ) : Ok0 G H := ⟨e.gh, e.gt, e.tb⟩
def spF (K : PySem.W.Frag) (mg : Str → Option Value) (n : Nat) (F : List D → Re Rv) : Sp := fun vs H Q E => ∃ G ds, ds.length = n ∧ Ok0 G H ∧ Reps K G vs ds ∧
  match F ds with
  | .ok (.sh d) => ∀ v G' H', Gr G H G' H' → Rep K G' v d → Q v H'
  | .ok (.fr d) => ∀ p G' H', Gr G H G' H' → Non H p → G' p = none → Own K G' H' p d → Q (.ref p) H'
  | .ex e => ∀ G' H', Gr G H G' H' → ExAt ⟨K, mg, H, G, fun _ _ _ _ => True⟩ E e G' H'
  | _ => False
structure DefOk (P : Program) (w : World) (K : PySem.W.Frag) (mg : Str → Option Value) (base : Heap) (k : Nat) (x : Str) (n : Nat) (F : List D → Re Rv) : Prop where
  ex : ∃ (f : Addr) (fd : FuncData) (ps : List Str), mg x = some (.ref f) ∧ PySem.W.keepIn K (.ref f) = true ∧ Binds K fd ps [] ∧ FnOk P w K mg base (L2N.CX P w) k f fd ps (spF K mg n F)
theorem DefOk.mono {P : Program} {w : World} {K : PySem.W.Frag} {mg : Str → Option Value} {base : Heap} {j k : Nat} {x : Str} {n : Nat} {F : List D → Re Rv} (h : DefOk P w K mg base j x n F) (l : j ≤ k) : DefOk P w K mg base k x n F := by
  obtain ⟨f, fd, ps, h1, h2, h3, h4⟩ := h.ex
  exact ⟨f, fd, ps, h1, h2, h3, h4.mono l⟩
def eCall (n : Nat) (F : List D → Re Rv) (fa : FA) : FE := fun Γ => (fa Γ).bind fun ds => if ds.length = n then (match F ds with
  | .ok (.bo _) => .bad | r => r) else .bad
section
variable {X : Cx} {c : LC} {a b e : Expr} {es : List Expr} {f g h : FE} {fa : FA} {pos : Pos}
theorem re_call (cy : Cy X c) {x : Str} {p : Pos} {k n : Nat} {F : List D → Re Rv} (h : DefOk X.prog X.w X.K X.mg X.base k x n F) (hr : Room k X.A) (hg : Gl X x) (ha : PA X (e :: es) (tA c fa))
    (hdb : (x == ("__debug__" : Str)) = false := by decide) (he : starEach (e :: es) X.env = (false, eval e X.env) :: starEach es X.env := by rfl) (hpl : (backTo pos (starEach es X.env)).any (·.1) = false := by rfl) :
    PE X (.Call (.Name x p) (e :: es) [] pos) (tE c (eCall n F fa)) := by
  obtain ⟨f, fd, ps, h1, h2, h3, h4⟩ := h.ex
  refine PE.weak (pe_callS (E := WE c.W) h4 hr hg h1 h2 h3 (fun σ => L2N.passAt cy.tk σ) ha hdb he hpl) ?_
  rintro σ H Q ⟨G, Γ, he, q⟩
  refine tAE he q fun ds vs G1 H1 _ g1 rs he1 q1 => ?_
  split at q1
  · rename_i hn
    refine ⟨G1, ds, hn, he1.ok0, by rw [cy.K]; exact rs, ?_⟩
    cases eF : F ds with
    | bad => rw [eF] at q1; exact q1
    | ex x => rw [eF] at q1; exact fun G' H' g' C d hC hd => q1 G' H' g' C d (by rw [← cy.mg]; exact hC) (by rw [← cy.K]; exact hd)
    | ok r =>
      rw [eF] at q1
      cases r with
      | sh d => exact fun v G' H' g' rv => q1 v G' H' g' (by rw [cy.K] at rv; exact rv) True.intro
      | fr d => exact fun p' G' H' g' hp gp o => q1 (.ref p') G' H' g' ⟨p', rfl, Kept.non he1.bh hp, gp, by rw [cy.K] at o; exact o⟩ ⟨p', rfl, hp⟩
      | bo d => exact q1
  · exact q1.elim
end

structure EndOk (c : LC) (G H : Hp) : Prop where
  bh : Kept c.B H
  g0 : Same c.G0 G
  gh : Same G H
  gf : ∀ a o, G a = some o → ¬ Non c.B a → c.G0 a = some o
  gt : NoT G
  tb : LamX.Tabs Tb.T H
theorem EnvOk.end {c : LC} {G H : Hp} {σ : St} {Γ : Env'} (e : EnvOk c G H σ Γ) : EndOk c G H := ⟨e.bh, e.g0, e.gh, e.gf, e.gt, e.tb⟩
def PostS (c : LC) (r : Fl) (G : Hp) (D : Ends) : Prop := match r with
  | .nx Γ' => ∀ σ' G' H', EnvOk c G' H' σ' Γ' → Same G G' → D.nx σ' H'
  | .bk Γ' => ∀ σ' G' H', EnvOk c G' H' σ' Γ' → Same G G' → D.bk σ' H'
  | .ct Γ' => ∀ σ' G' H', EnvOk c G' H' σ' Γ' → Same G G' → D.ct σ' H'
  | .rt r => ∀ v G' H', EndOk c G' H' → Same G G' → RV c G' H' v r → (∀ d, r ≠ .bo d) → D.rt v H'
  | .ex e Γ' => ∀ σ' G' H', EnvOk c G' H' σ' Γ' → Same G G' → ExAt c (fun C d H' => c.W C d σ' H') e G' H'
  | .bad => False
def tS (c : LC) (f : FS) : TS := fun D σ H => ∃ G Γ, EnvOk c G H σ Γ ∧ PostS c (f Γ) G D
theorem PostS.later {c : LC} {r : Fl} {G G1 : Hp} {D : Ends} (g : Same G G1) (h : PostS c r G D) : PostS c r G1 D := by
  cases r with
  | nx Γ => exact fun σ' G' H' e s => h σ' G' H' e (g.trans s)
  | bk Γ => exact fun σ' G' H' e s => h σ' G' H' e (g.trans s)
  | ct Γ => exact fun σ' G' H' e s => h σ' G' H' e (g.trans s)
  | rt r => exact fun v G' H' e s => h v G' H' e (g.trans s)
  | ex x Γ => exact fun σ' G' H' e s => h σ' G' H' e (g.trans s)
  | bad => exact h
def Re.fl {α : Type} (r : Re α) (Γ : Env') (k : α → Fl) : Fl := match r with
  | .ok a => k a | .ex e => .ex e Γ | .bad => .bad
theorem sE {c : LC} {f : FE} {σ : St} {H G : Hp} {Γ : Env'} {D : Ends} {k : Rv → Fl} {R : VK} (he : EnvOk c G H σ Γ) (h : PostS c ((f Γ).fl Γ k) G D)
    (hk : ∀ r v G' H', f Γ = .ok r → Gr G H G' H' → RV c G' H' v r → Fresh H v r → EnvOk c G' H' σ Γ → PostS c (k r) G' D → R v H') : tE c f σ H R := by
  refine ⟨G, Γ, he, ?_⟩
  cases e : f Γ with
  | bad => rw [e] at h; exact h
  | ex x => rw [e] at h; exact fun G' H' g => h σ G' H' (he.mono g) g.gg
  | ok r =>
    intro v G' H' g rv fr
    rw [e] at h
    exact hk r v G' H' e g rv fr (he.mono g) (PostS.later g.gg h)
theorem sE0 {c : LC} {f : FE} {σ : St} {H G : Hp} {Γ : Env'} {D : Ends} {k : Rv → Fl} {R : VK} (he : EnvOk c G H σ Γ) (h : PostS c ((f Γ).fl Γ k) G D)
    (hk : ∀ r v G' H', f Γ = .ok r → Gr G H G' H' → RV c G' H' v r → Fresh H v r → PostS c (k r) G D → R v H') : tE c f σ H R := by
  refine ⟨G, Γ, he, ?_⟩
  cases e : f Γ with
  | bad => rw [e] at h; exact h
  | ex x => rw [e] at h; exact fun G' H' g => h σ G' H' (he.mono g) g.gg
  | ok r =>
    intro v G' H' g rv fr
    rw [e] at h
    exact hk r v G' H' e g rv fr h
theorem sT {c : LC} {f : FT} {σ : St} {H G : Hp} {Γ : Env'} {D : Ends} {k : Bool → Fl} {R : Bool → Hp → Prop} (he : EnvOk c G H σ Γ) (h : PostS c ((f Γ).fl Γ k) G D)
    (hk : ∀ r G' H', f Γ = .ok r → Gr G H G' H' → EnvOk c G' H' σ Γ → PostS c (k r) G' D → R r H') : tT c f σ H R := by
  refine ⟨G, Γ, he, ?_⟩
  cases e : f Γ with
  | bad => rw [e] at h; exact h
  | ex x => rw [e] at h; exact fun G' H' g => h σ G' H' (he.mono g) g.gg
  | ok r =>
    intro G' H' g
    rw [e] at h
    exact hk r G' H' e g (he.mono g) (PostS.later g.gg h)
section
variable {X : Cx} {c : LC} {a b e : Expr} {st : Stmt} {rest : List Stmt} {f g h : FE} {ft : FT} {u v : FS} {pos : Pos}
def sNil : FS := fun Γ => .nx Γ
def sSeq (u v : FS) : FS := fun Γ => match u Γ with
  | .nx Γ' => v Γ' | o => o
theorem rs_nil : PSs X [] (tS c sNil) := PSs.weak pss_nil fun D σ H ⟨G, Γ, he, q⟩ => q σ G H he (Same.refl _)
theorem rs_cons (h1 : PS X st (tS c u)) (h2 : PSs X rest (tS c v)) : PSs X (st :: rest) (tS c (sSeq u v)) := by
  refine PSs.weak (pss_cons h1 h2) ?_
  rintro D σ H ⟨G, Γ, he, q⟩
  refine ⟨G, Γ, he, ?_⟩
  unfold sSeq at q
  cases e : u Γ with
  | nx Γ' =>
    rw [e] at q
    exact fun σ' G' H' he' s => ⟨G', Γ', he', PostS.later s q⟩
  | bk Γ' => rw [e] at q; exact q
  | ct Γ' => rw [e] at q; exact q
  | rt r => rw [e] at q; exact q
  | ex x Γ' => rw [e] at q; exact q
  | bad => rw [e] at q; exact q
theorem rs_one (h1 : PS X st (tS c u)) : PSs X [st] (tS c u) := pss_one h1
def sBrk : FS := fun Γ => .bk Γ
def sCnt : FS := fun Γ => .ct Γ
theorem rs_pass : PS X (.Pass pos) (tS c sNil) := PS.weak ps_pass fun D σ H ⟨G, Γ, he, q⟩ => q σ G H he (Same.refl _)
theorem rs_brk : PS X (.Break pos) (tS c sBrk) := PS.weak ps_break fun D σ H ⟨G, Γ, he, q⟩ => q σ G H he (Same.refl _)
theorem rs_cnt : PS X (.Continue pos) (tS c sCnt) := PS.weak ps_continue fun D σ H ⟨G, Γ, he, q⟩ => q σ G H he (Same.refl _)
def sIf (t : FT) (u v : FS) : FS := fun Γ => (t Γ).fl Γ fun b => if b = true then u Γ else v Γ
theorem rs_if {t : Expr} {as bs : List Stmt} (hc : PT X t (tT c ft)) (ha : PSs X as (tS c u)) (hb : PSs X bs (tS c v)) : PS X (.If t as bs pos) (tS c (sIf ft u v)) := by
  refine PS.weak (ps_if hc ha hb) ?_
  rintro D σ H ⟨G, Γ, he, q⟩
  refine sT he q fun k G1 H1 _ g1 he1 q1 => ?_
  cases k with
  | true => rw [if_pos rfl] at q1 ⊢; exact ⟨G1, Γ, he1, q1⟩
  | false => rw [if_neg Bool.false_ne_true] at q1 ⊢; exact ⟨G1, Γ, he1, q1⟩
def sRet (f : FE) : FS := fun Γ => (f Γ).fl Γ fun r => match r with
  | .bo d => .rt (.fr d) | r => .rt r
theorem rs_ret (ha : PE X e (tE c f)) : PS X (.Return (some e) pos) (tS c (sRet f)) := by
  refine PS.weak (ps_ret ha) ?_
  rintro D σ H ⟨G, Γ, he, q⟩
  refine sE he q fun r v G1 H1 _ g1 v1 fr he1 q1 => ?_
  cases r with
  | sh d => exact q1 v G1 H1 he1.end (Same.refl _) v1 (fun _ z => by cases z)
  | fr d => exact q1 v G1 H1 he1.end (Same.refl _) v1 (fun _ z => by cases z)
  | bo d => exact q1 v G1 H1 he1.end (Same.refl _) v1 (fun _ z => by cases z)
def sRetN : FS := fun _ => .rt (.sh .n)
theorem rs_retN : PS X (.Return none pos) (tS c sRetN) := by
  refine PS.weak ps_retN ?_
  rintro D σ H ⟨G, Γ, he, q⟩
  exact q .non G H he.end (Same.refl _) .n (fun _ z => by cases z)
def sEx (f : FE) : FS := fun Γ => (f Γ).fl Γ fun _ => .nx Γ
theorem rs_ex (ha : PE X e (tE c f)) (hs : swapsWith e none pos.line X.env = pure false := by rfl) : PS X (.Expr e pos) (tS c (sEx f)) := by
  refine PS.weak (ps_expr ha hs) ?_
  rintro D σ H ⟨G, Γ, he, q⟩
  exact sE he q fun r v G1 H1 _ g1 v1 fr he1 q1 => q1 σ G1 H1 he1 (Same.refl _)

theorem set_get {α : Type} {l : List (Option α)} {i j : Nat} {x y : α} (h : (l.set i (some x))[j]? = some (some y)) : (j = i ∧ x = y ∧ i < l.length) ∨ (j ≠ i ∧ l[j]? = some (some y)) := by
  by_cases hj : j = i
  · subst hj
    by_cases hl : j < l.length
    · rw [List.getElem?_set_self hl] at h; cases h; exact .inl ⟨rfl, rfl, hl⟩
    · rw [List.getElem?_eq_none (by simpa using hl)] at h; cases h
  · rw [List.getElem?_set_ne (Ne.symm hj)] at h; exact .inr ⟨hj, h⟩
theorem EnvOk.setSh {G H : Hp} {σ : St} {Γ : Env'} (he : EnvOk c G H σ Γ) (i : Nat) {v : V} {d : D} (h : Rep c.K G v d) : EnvOk c G H (σ.set i (some v)) (Γ.set i (some (.sh d))) := by
  refine ⟨he.bh, he.g0, he.gh, he.gf, he.gt, he.tb, by simpa using he.len, fun j r hj => ?_, fun j k x y p hj hk sj sk => ?_⟩
  · rcases set_get hj with ⟨rfl, rfl, hl⟩ | ⟨hne, hj⟩
    · exact ⟨v, List.getElem?_set_self (by rw [he.len]; exact hl), h, fun _ z => by cases z⟩
    · obtain ⟨w, h1, h2, h3⟩ := he.at' j r hj
      exact ⟨w, by rw [List.getElem?_set_ne (Ne.symm hne)]; exact h1, h2, h3⟩
  · rcases set_get hj with ⟨_, z, _⟩ | ⟨nj, hj⟩
    · cases z
    · rcases set_get hk with ⟨_, z, _⟩ | ⟨nk, hk⟩
      · cases z
      · rw [List.getElem?_set_ne (Ne.symm nj)] at sj
        rw [List.getElem?_set_ne (Ne.symm nk)] at sk
        exact he.sep j k x y p hj hk sj sk
theorem EnvOk.setFr {G H : Hp} {σ : St} {Γ : Env'} (he : EnvOk c G H σ Γ) (i : Nat) {p : Addr} {d : D} (bp : Non c.B p) (gp : G p = none) (o : Own c.K G H p d)
    (nw : ∀ (j : Nat) (e : D), Γ[j]? = some (some (Rv.fr e)) → σ[j]? ≠ some (some (V.ref p))) : EnvOk c G H (σ.set i (some (.ref p))) (Γ.set i (some (.fr d))) := by
  refine ⟨he.bh, he.g0, he.gh, he.gf, he.gt, he.tb, by simpa using he.len, fun j r hj => ?_, fun j k x y q hj hk sj sk => ?_⟩
  · rcases set_get hj with ⟨rfl, rfl, hl⟩ | ⟨hne, hj⟩
    · exact ⟨.ref p, List.getElem?_set_self (by rw [he.len]; exact hl), ⟨p, rfl, bp, gp, o⟩, fun _ z => by cases z⟩
    · obtain ⟨w, h1, h2, h3⟩ := he.at' j r hj
      exact ⟨w, by rw [List.getElem?_set_ne (Ne.symm hne)]; exact h1, h2, h3⟩
  · rcases set_get hj with ⟨ej, _, _⟩ | ⟨nj, hj'⟩
    · rcases set_get hk with ⟨ek, _, _⟩ | ⟨nk, hk'⟩
      · rw [ej, ek]
      · subst ej
        rw [List.getElem?_set_ne (Ne.symm nk)] at sk
        rcases set_get sj with ⟨_, z, _⟩ | ⟨z, _⟩
        · cases z; exact absurd sk (nw k y hk')
        · exact absurd rfl z
    · rcases set_get hk with ⟨ek, _, _⟩ | ⟨nk, hk'⟩
      · subst ek
        rw [List.getElem?_set_ne (Ne.symm nj)] at sj
        rcases set_get sk with ⟨_, z, _⟩ | ⟨z, _⟩
        · cases z; exact absurd sj (nw j x hj')
        · exact absurd rfl z
      · rw [List.getElem?_set_ne (Ne.symm nj)] at sj
        rw [List.getElem?_set_ne (Ne.symm nk)] at sk
        exact he.sep j k x y q hj' hk' sj sk
theorem EnvOk.newTo {G H : Hp} {σ : St} {Γ : Env'} (he : EnvOk c G H σ Γ) {p : Addr} (hp : Non H p) : ∀ (j : Nat) (e : D), Γ[j]? = some (some (Rv.fr e)) → σ[j]? ≠ some (some (V.ref p)) := fun j e hj z => by
  obtain ⟨v, h1, h2, _⟩ := he.at' j _ hj
  obtain ⟨q, rfl, _, _, o⟩ := h2
  rw [h1] at z
  cases z
  exact o.live hp
def setR (i : Nat) (Γ : Env') : Rv → Fl
  | .bo _ => .bad | r => .nx (Γ.set i (some r))
def sSet (i : Nat) (f : FE) : FS := fun Γ => (f Γ).fl Γ (setR i Γ)
theorem set_env {G H G1 H1 : Hp} {σ : St} {Γ : Env'} {D : Ends} {i : Nat} {r : Rv} {v : V} (he : EnvOk c G H σ Γ) (g : Gr G H G1 H1) (h : RV c G1 H1 v r) (fr : Fresh H v r) (q : PostS c (setR i Γ r) G D) : D.nx (σ.set i (some v)) H1 := by
  cases r with
  | sh d => exact q _ G1 H1 ((he.mono g).setSh i h) g.gg
  | fr d =>
    obtain ⟨p, rfl, bp, gp, o⟩ := h
    obtain ⟨p', e', hp⟩ := fr
    cases e'
    exact q _ G1 H1 ((he.mono g).setFr i bp gp o (he.newTo hp)) g.gg
  | bo d => exact q.elim
theorem rs_set (cy : Cy X c) {i : Nat} {x : Str} {pos' : Pos} (hi : X.N[i]? = some x) (hx : Loc X.env.scope x) (ha : PE X e (tE c f)) (hs : swapsWith e (some (.Name x pos')) pos.line X.env = pure false := by rfl)
    (hf : X.fn x = true ∨ X.env.scope.names.lookup x = some .local := by first | exact .inl rfl | exact .inr rfl) : PS X (.Assign [.Name x pos'] e pos) (tS c (sSet i f)) := by
  refine PS.weak (ps_set cy.nd hi hx ha hs hf) ?_
  rintro D σ H ⟨G, Γ, he, q⟩
  exact sE0 he q fun r v G1 H1 _ g1 v1 fr q1 => set_env he g1 v1 fr q1
def frz (i : Nat) (Γ : Env') : Env' := match Γ[i]? with
  | some (some (.fr d)) => Γ.set i (some (.sh d))
  | _ => Γ
def sFrz (i : Nat) (u : FS) : FS := fun Γ => u (frz i Γ)
theorem EnvOk.frz {G H : Hp} {σ : St} {Γ : Env'} (he : EnvOk c G H σ Γ) (i : Nat) : ∃ G', Same G G' ∧ EnvOk c G' H σ (Ly.frz i Γ) := by
  unfold Ly.frz
  split
  · rename_i d hi
    obtain ⟨v, h1, ⟨p, rfl, bp, gp, o⟩, _⟩ := he.at' i _ hi
    obtain ⟨w, hw, pl, rp⟩ := o.rep gp
    have sm : Same G (upd G p w) := fun b x q => by rw [upd_ne (ne_of_none q gp)]; exact q
    have il : i < Γ.length := (List.getElem?_eq_some_iff.mp hi).1
    refine ⟨upd G p w, sm, ⟨he.bh, he.g0.trans sm, fun b x q => ?_, fun b x q n => ?_, he.gt.upd pl.1, he.tb, by simpa using he.len, fun j r hj => ?_, fun j k x y q hj hk sj sk => ?_⟩⟩
    · by_cases hb : b = p
      · subst hb; rw [upd_same] at q; rw [hw]; exact q
      · rw [upd_ne hb] at q; exact he.gh b x q
    · by_cases hb : b = p
      · subst hb; exact absurd bp n
      · rw [upd_ne hb] at q; exact he.gf b x q n
    · rcases set_get hj with ⟨rfl, rfl, hl⟩ | ⟨hne, hj⟩
      · exact ⟨.ref p, h1, rp, fun _ z => by cases z⟩
      · obtain ⟨v', h1', h2', h3'⟩ := he.at' j r hj
        refine ⟨v', h1', ?_, h3'⟩
        cases r with
        | sh d' => exact Rep.mono sm h2'
        | fr d' =>
          obtain ⟨p', rfl, bp', gp', o'⟩ := h2'
          have np : p' ≠ p := fun z => by subst z; exact hne (he.sep j i _ _ p' hj hi h1' h1)
          exact ⟨p', rfl, bp', by rw [upd_ne np]; exact gp', o'.mono (LamX.ExtN.refl _) sm⟩
        | bo d' => exact absurd rfl (h3' d')
    · rcases set_get hj with ⟨_, z, _⟩ | ⟨nj, hj⟩
      · cases z
      · rcases set_get hk with ⟨_, z, _⟩ | ⟨nk, hk⟩
        · cases z
        · exact he.sep j k x y q hj hk sj sk
  · exact ⟨G, Same.refl _, he⟩
theorem rs_frz {sts : List Stmt} (i : Nat) (h : PSs X sts (tS c u)) : PSs X sts (tS c (sFrz i u)) := by
  refine PSs.weak h ?_
  rintro D σ H ⟨G, Γ, he, q⟩
  obtain ⟨G', s, he'⟩ := he.frz i
  exact ⟨G', _, he', PostS.later s q⟩
def setN : List Nat → List D → Env' → Option Env'
  | [], [], Γ => some Γ
  | i :: is, d :: ds, Γ => setN is ds (Γ.set i (some (.sh d)))
  | _, _, _ => none
def gNames : List Nat → TGs
  | [] => gNil
  | i :: is => gCons (gName i) (gNames is)
theorem gNames_ok {G H : Hp} {Q : St → Hp → Prop} : ∀ {is : List Nat} {ds : List D} {vs : List V} {σ : St} {Γ Γ' : Env'}, EnvOk c G H σ Γ → Reps c.K G vs ds → setN is ds Γ = some Γ' → (∀ σ', EnvOk c G H σ' Γ' → (∀ j, j ∉ is → σ'[j]? = σ[j]?) → Q σ' H) → gNames is vs σ H Q
  | [], [], _, σ, Γ, Γ', he, .nil, e, q => by
    cases e
    exact ⟨rfl, q σ he (fun _ _ => rfl)⟩
  | i :: is, d :: ds, _, σ, Γ, Γ', he, .cons (v := v) (vs := vs) r rs, e, q => by
    refine ⟨_, _, rfl, ?_⟩
    refine gNames_ok (is := is) (he.setSh i r) rs e fun σ' h1 h2 => q σ' h1 fun j hj => ?_
    rw [h2 j (fun z => hj (List.mem_cons_of_mem _ z)), List.getElem?_set_ne (fun z => hj (by rw [z]; exact List.mem_cons_self))]
  | [], _ :: _, _, _, _, _, _, _, e, _ => by cases e
  | _ :: _, [], _, _, _, _, _, _, e, _ => by cases e
inductive Tg where
  | one (i : Nat) | tup (is : List Nat)
def Tg.ix : Tg → List Nat
  | .one i => [i] | .tup is => is
def Tg.set : Tg → D → Env' → Option Env'
  | .one i, d, Γ => some (Γ.set i (some (.sh d)))
  | .tup is, .t ds, Γ => setN is ds Γ
  | .tup _, _, _ => none
def Tg.tgt (K : PySem.W.Frag) : Tg → TG
  | .one i => gName i
  | .tup is => gTup K is.length (gNames is)
theorem setN_length : ∀ {is : List Nat} {ds : List D} {Γ Γ' : Env'}, setN is ds Γ = some Γ' → ds.length = is.length
  | [], [], _, _, _ => rfl
  | _ :: is, _ :: ds, _, _, e => by simp [setN_length (is := is) e]
  | [], _ :: _, _, _, e => by cases e
  | _ :: _, [], _, _, e => by cases e
theorem Tg.ok {G H : Hp} {t : Tg} {d : D} {v : V} {σ : St} {Γ Γ' : Env'} {Q : St → Hp → Prop} (he : EnvOk c G H σ Γ) (r : Rep c.K G v d) (e : t.set d Γ = some Γ') (q : ∀ σ', EnvOk c G H σ' Γ' → (∀ j, j ∉ t.ix → σ'[j]? = σ[j]?) → Q σ' H) : t.tgt c.K v σ H Q := by
  cases t with
  | one i =>
    cases e
    exact q _ (he.setSh i r) fun j hj => List.getElem?_set_ne (fun z => hj (by rw [z]; exact List.mem_cons_self))
  | tup is =>
    cases d with
    | t ds =>
      obtain ⟨a, xs, e1, e2, e3⟩ := r.t_inv
      exact ⟨a, xs, e1, SqT.of (he.gh _ _ e2), by rw [e3.length, setN_length (show setN is ds Γ = some Γ' from e)], gNames_ok he e3 e q⟩
    | _ => cases e
theorem rg_one (cy : Cy X c) {i : Nat} {x : Str} (hi : X.N[i]? = some x) (hx : Loc X.env.scope x) (hf : X.fn x = true ∨ X.env.scope.names.lookup x = some .local := by first | exact .inl rfl | exact .inr rfl) : PG X (.Name x pos) ((Tg.one i).tgt c.K) :=
  pg_name cy.nd hi hx hf
def sAsg (t : Tg) (f : FE) : FS := fun Γ => (f Γ).fl Γ fun r => match r with
  | .sh d => (match t.set d Γ with | some Γ' => .nx Γ' | none => .bad)
  | _ => .bad
theorem rs_asg {t : Tg} {tg : Expr} (hg : PG X tg (t.tgt c.K)) (ha : PE X e (tE c f)) (hs : swapsWithSole [tg] e pos.line X.env = pure false := by rfl) (hw : swappedStores [tg] e X.env = pure none := by rfl)
    (h1 : (assignEach [tg] X.env).map (·.2) = [assign tg X.env] := by rfl) : PS X (.Assign [tg] e pos) (tS c (sAsg t f)) := by
  refine PS.weak (ps_asg ha hg hs hw h1) ?_
  rintro D σ H ⟨G, Γ, he, q⟩
  refine sE he q fun r v G1 H1 _ g1 v1 fr he1 q1 => ?_
  cases r with
  | sh d =>
    dsimp only at q1
    cases e' : t.set d Γ with
    | none => rw [e'] at q1; exact q1.elim
    | some Γ' =>
      rw [e'] at q1
      exact Tg.ok he1 v1 e' fun σ' h1 _ => q1 σ' G1 H1 h1 (Same.refl _)
  | fr d => exact q1.elim
  | bo d => exact q1.elim
end
end Ly
end

section
set_option maxRecDepth 100000
namespace Ly
open PySem PySem.Spec L2
open PyProof.Rows hiding St
variable [Tb]

theorem Own.at {K : PySem.W.Frag} {G H H' : Hp} {p : Addr} {d : D} (e : H' p = H p) (o : Own K G H p d) : Own K G H' p d := by
  cases o with
  | l h r => exact .l (e.trans h) r
  | dk h q r => exact .dk (e.trans h) q r
  | dt h q r => exact .dt (e.trans h) q r
section
variable {X : Cx} {c : LC} {a b e : Expr} {es : List Expr} {f g h : FE} {ft : FT} {fa : FA} {u v : FS} {pos : Pos}
theorem EnvOk.put {G H : Hp} {σ : St} {Γ : Env'} (he : EnvOk c G H σ Γ) {i : Nat} {p : Addr} {d d' : D} {o' : HO} (hi : Γ[i]? = some (some (.fr d))) (hs : σ[i]? = some (some (.ref p))) (o : Own c.K G (upd H p o') p d') :
    EnvOk c G (upd H p o') σ (Γ.set i (some (.fr d'))) := by
  obtain ⟨v, h1, ⟨p', e', bp, gp, o0⟩, _⟩ := he.at' i _ hi
  rw [hs] at h1
  cases h1
  cases e'
  obtain ⟨u0, hu0, pl0⟩ := o0.some
  refine ⟨Kept.upd he.bh bp, he.g0, fun b x q => ?_, he.gf, he.gt, tabs_put he.tb hu0 pl0, by simpa using he.len, fun j r hj => ?_, fun j k x y q hj hk sj sk => ?_⟩
  · rw [upd_ne (ne_of_none q gp)]; exact he.gh b x q
  · rcases set_get hj with ⟨rfl, rfl, hl⟩ | ⟨hne, hj⟩
    · exact ⟨.ref p, hs, ⟨p, rfl, bp, gp, o⟩, fun _ z => by cases z⟩
    · obtain ⟨w, h1, h2, h3⟩ := he.at' j r hj
      refine ⟨w, h1, ?_, h3⟩
      cases r with
      | sh x => exact h2
      | fr x =>
        obtain ⟨q, rfl, bq, gq, oq⟩ := h2
        have nq : q ≠ p := fun z => by subst z; exact hne (he.sep j i _ _ q hj hi h1 hs)
        exact ⟨q, rfl, bq, gq, oq.at (upd_ne nq)⟩
      | bo x => exact absurd rfl (h3 x)
  · have old : ∀ (m : Nat) (z : D), (Γ.set i (some (.fr d')))[m]? = some (some (.fr z)) → ∃ z', Γ[m]? = some (some (.fr z')) := fun m z hm => by
      rcases set_get hm with ⟨rfl, _, _⟩ | ⟨_, hm⟩
      · exact ⟨_, hi⟩
      · exact ⟨_, hm⟩
    obtain ⟨x', hj'⟩ := old j x hj
    obtain ⟨y', hk'⟩ := old k y hk
    exact he.sep j k x' y' q hj' hk' sj sk
theorem EnvOk.list {G H : Hp} {σ : St} {Γ : Env'} (he : EnvOk c G H σ Γ) {i : Nat} {ds : List D} (hi : Γ[i]? = some (some (.fr (.l ds)))) :
    ∃ p xs, σ[i]? = some (some (.ref p)) ∧ G p = none ∧ H p = some (.lst xs) ∧ Reps c.K G xs ds := by
  obtain ⟨v, h1, ⟨p, rfl, bp, gp, o⟩, _⟩ := he.at' i _ hi
  cases o with
  | l h2 h3 => exact ⟨p, _, h1, gp, h2, h3⟩
theorem sS {σ : St} {H G : Hp} {Γ : Env'} {D' : Ends} {k : D → Fl} {R : VK} (he : EnvOk c G H σ Γ) (h : PostS c ((f Γ).fl Γ fun r => (share r).fl Γ k) G D')
    (hk : ∀ d v G' H', Gr G H G' H' → Rep c.K G' v d → EnvOk c G' H' σ Γ → PostS c (k d) G' D' → R v H') : tE c f σ H R := by
  refine sE0 he h fun r v G1 H1 _ g1 v1 fr q1 => ?_
  cases e1 : share r with
  | bad => rw [e1] at q1; exact q1.elim
  | ex x => cases r <;> cases e1
  | ok d =>
    rw [e1] at q1
    obtain ⟨G2, g2, s2, rp⟩ := v1.share g1 fr e1
    exact hk d v G2 H1 g2 rp (he.mono g2) (PostS.later g2.gg q1)

def sApp (i : Nat) (f : FE) : FS := fun Γ => match Γ[i]? with
  | some (some (.fr (.l ds))) => (f Γ).fl Γ fun r => (share r).fl Γ fun d => if ds.length < 16777216 then .nx (Γ.set i (some (.fr (.l (ds ++ [d]))))) else .bad
  | _ => .bad
theorem rs_app {i : Nat} {x : Str} {px apos cpos : Pos} (hN : X.N[i]? = some x) (hv : Vis X.env.scope x) (ha : PE X e (tE c f))
    (hd : (x == ("__debug__" : Str)) = false := by decide) (hcd : (x == ("__classdict__" : Str)) = false := by decide)
    (hsw : swapsWith (.Call (.Attribute (.Name x px) "append" apos) [e] [] cpos) none pos.line X.env = pure false := by rfl)
    (hbase : attributeBase (.Name x px) "append" X.env (eval (.Name x px) X.env) = eval (.Name x px) X.env := by rfl)
    (hfew : ((backTo cpos (starEach [e] X.env)).all (fun x => !x.1) && (backToKw cpos (keywordEach [] X.env)).all (fun x => x.1.isSome)
      && decide ([e].length + ([] : List Keyword).length + (if ([] : List Keyword).isEmpty then 0 else 1) < 30)) = true := by rfl)
    (hline : (apos.endLine == cpos.line) = true := by rfl) (hs : starEach [e] X.env = [(false, eval e X.env)] := by rfl) :
    PS X (.Expr (.Call (.Attribute (.Name x px) "append" apos) [e] [] cpos) pos) (tS c (sApp i f)) := by
  refine PS.weak (ps_expr (pe_bm PySem.F.plainAttrs_list PySem.F.slot_list_append PySem.F.type_list_append mt_append (pe_var hN hv hd hcd) (pa_cons ha pa_nil hs) hbase hfew hline hs) hsw) ?_
  rintro D σ H ⟨G, Γ, he, q⟩
  unfold sApp at q
  split at q
  · rename_i ds hi
    obtain ⟨p, xs, h1, gp, h2, h3⟩ := he.list hi
    refine ⟨_, h1, .inl ⟨rfl, _, SqL.of h2⟩, ?_⟩
    refine sS he q fun d v G1 H1 g1 r1 he1 q1 => ?_
    split at q1
    · refine ⟨p, xs, v, rfl, rfl, g1.hh _ _ h2 (fun _ z => by cases z), by rw [h3.length, sizeLine_eq]; assumption, ?_⟩
      exact q1 σ G1 _ (he1.put (d' := .l (ds ++ [d])) hi h1 (.l upd_same ((h3.mono g1.gg).append (.cons r1 .nil)))) (Same.refl _)
    · exact q1.elim
  · exact q.elim
def sIns (i : Nat) (f g : FE) : FS := fun Γ => match Γ[i]? with
  | some (some (.fr (.l ds))) => (f Γ).fl Γ fun r => match r.d with
    | .i k => (g Γ).fl Γ fun r => (share r).fl Γ fun d => if ds.length < 16777216 ∧ 0 ≤ k ∧ k < 2 ^ 63 then .nx (Γ.set i (some (.fr (.l (ds.take k.toNat ++ [d] ++ ds.drop k.toNat))))) else .bad
    | _ => .bad
  | _ => .bad
theorem rs_ins {i : Nat} {x : Str} {px apos cpos : Pos} (hN : X.N[i]? = some x) (hv : Vis X.env.scope x) (ha : PE X a (tE c f)) (hb : PE X b (tE c g))
    (hd : (x == ("__debug__" : Str)) = false := by decide) (hcd : (x == ("__classdict__" : Str)) = false := by decide)
    (hsw : swapsWith (.Call (.Attribute (.Name x px) "insert" apos) [a, b] [] cpos) none pos.line X.env = pure false := by rfl)
    (hbase : attributeBase (.Name x px) "insert" X.env (eval (.Name x px) X.env) = eval (.Name x px) X.env := by rfl)
    (hfew : ((backTo cpos (starEach [a, b] X.env)).all (fun x => !x.1) && (backToKw cpos (keywordEach [] X.env)).all (fun x => x.1.isSome)
      && decide ([a, b].length + ([] : List Keyword).length + (if ([] : List Keyword).isEmpty then 0 else 1) < 30)) = true := by rfl)
    (hline : (apos.endLine == cpos.line) = true := by rfl) (hs : starEach [a, b] X.env = (false, eval a X.env) :: starEach [b] X.env := by rfl) (hs2 : starEach [b] X.env = [(false, eval b X.env)] := by rfl)
    (hpl : (backTo cpos (starEach [b] X.env)).any (·.1) = false := by rfl) :
    PS X (.Expr (.Call (.Attribute (.Name x px) "insert" apos) [a, b] [] cpos) pos) (tS c (sIns i f g)) := by
  refine PS.weak (ps_expr (pe_bm PySem.F.plainAttrs_list PySem.F.slot_list_insert PySem.F.type_list_insert mt_insert (pe_var hN hv hd hcd) (pa_cons ha (pa_cons hb pa_nil hs2) hs) hbase hfew hline hs hpl) hsw) ?_
  rintro D σ H ⟨G, Γ, he, q⟩
  unfold sIns at q
  split at q
  · rename_i ds hi
    obtain ⟨p, xs, h1, gp, h2, h3⟩ := he.list hi
    refine ⟨_, h1, .inl ⟨rfl, _, SqL.of h2⟩, ?_⟩
    refine sE he q fun r v G1 H1 _ g1 v1 fr he1 q1 => ?_
    split at q1
    · rename_i k ek
      refine sS he1 q1 fun d w G2 H2 g2 r2 he2 q2 => ?_
      split at q2
      · rename_i hc
        cases v1.int ek
        refine ⟨p, xs, k, w, rfl, rfl, g2.hh _ _ (g1.hh _ _ h2 fun _ z => by cases z) (fun _ z => by cases z), by rw [h3.length, sizeLine_eq]; exact hc.1, hc.2.1, hc.2.2, ?_⟩
        have h3' := (h3.mono g1.gg).mono g2.gg
        exact q2 σ G2 _ (he2.put (d' := .l (ds.take k.toNat ++ [d] ++ ds.drop k.toNat)) hi h1 (.l upd_same (((h3'.take _).append (.cons r2 .nil)).append (h3'.drop _)))) (Same.refl _)
      · exact q2.elim
    · exact q1.elim
  · exact q.elim

def tGt (c : LC) (s : D → Env' → Re Env') : TG := fun v σ H Q => ∃ G Γ d, EnvOk c G H σ Γ ∧ Rep c.K G v d ∧ match s d Γ with
  | .ok Γ' => ∀ σ' G' H', EnvOk c G' H' σ' Γ' → Same G G' → Q σ' H'
  | _ => False
theorem PG.weak {tg : Expr} {t t' : TG} (h : PG X tg t) (w : ∀ v σ H Q, t' v σ H Q → t v σ H Q) : PG X tg t' := ⟨fun pins s σ H v u Q I r q => h.run pins s σ H v u Q I r (w _ _ _ _ q)⟩
def gOne (i : Nat) : D → Env' → Re Env' := fun d Γ => .ok (Γ.set i (some (.sh d)))
def gSubL (i : Nat) (f : FE) : D → Env' → Re Env' := fun d Γ => match Γ[i]? with
  | some (some (.fr (.l ds))) => (f Γ).bind fun r => match r.d with
    | .i k => (match ixN ds.length k with | some j => .ok (Γ.set i (some (.fr (.l (ds.set j d))))) | none => .bad)
    | _ => .bad
  | _ => .bad
theorem rg_name (cy : Cy X c) {i : Nat} {x : Str} (hi : X.N[i]? = some x) (hx : Loc X.env.scope x) (hf : X.fn x = true ∨ X.env.scope.names.lookup x = some .local := by first | exact .inl rfl | exact .inr rfl) : PG X (.Name x pos) (tGt c (gOne i)) :=
  PG.weak (pg_name cy.nd hi hx hf) fun v σ H Q ⟨G, Γ, d, he, r, q⟩ => q _ G H (he.setSh i r) (Same.refl _)
theorem rg_sub {i : Nat} {x : Str} {px : Pos} (hN : X.N[i]? = some x) (hv : Vis X.env.scope x) (hb : PE X b (tE c f))
    (hd : (x == ("__debug__" : Str)) = false := by decide) (hcd : (x == ("__classdict__" : Str)) = false := by decide)
    (ha : ∀ v, assign (.Subscript (.Name x px) b pos) X.env v = (do
      let ov ← holding [v] (eval (.Name x px) X.env)
      let iv ← holding [v, ov] (eval b X.env)
      standAt pos
      holding [v, ov, iv] (setItem ov iv v)
      release [v, ov, iv] []) := by intro _; rfl) :
    PG X (.Subscript (.Name x px) b pos) (tGt c (gSubL i f)) := by
  refine PG.weak (pg_sub (pe_var hN hv hd hcd) hb set_list ha) ?_
  rintro v σ H Q ⟨G, Γ, d, he, r, q⟩
  cases e : gSubL i f d Γ with
  | bad => rw [e] at q; exact q.elim
  | ex x => rw [e] at q; exact q.elim
  | ok Γ' =>
    rw [e] at q
    unfold gSubL at e
    split at e
    · rename_i ds hi
      obtain ⟨p, xs, h1, gp, h2, h3⟩ := he.list hi
      refine ⟨_, h1, G, Γ, he, ?_⟩
      cases ef : f Γ with
      | bad => rw [ef] at e; cases e
      | ex x => rw [ef] at e; cases e
      | ok rr =>
        rw [ef] at e
        simp only [Re.bind_ok] at e
        intro w G1 H1 g1 v1 fr
        split at e
        · rename_i k ek
          split at e
          · rename_i j hj
            cases e
            cases v1.int ek
            refine ⟨p, xs, k, j, rfl, rfl, g1.hh _ _ h2 (fun _ z => by cases z), by rw [h3.length]; exact hj, ?_⟩
            exact q σ G1 _ ((he.mono g1).put (d' := .l (ds.set j d)) hi h1 (.l upd_same ((h3.mono g1.gg).set (r.mono g1.gg) j))) g1.gg
          · cases e
        · cases e
    · cases e
def gAll : List (D → Env' → Re Env') → List D → Env' → Re Env'
  | [], [], Γ => .ok Γ
  | s :: ss, d :: ds, Γ => (s d Γ).bind fun Γ' => gAll ss ds Γ'
  | _, _, _ => .bad
def tGts (c : LC) : List (D → Env' → Re Env') → TGs
  | [] => gNil
  | s :: ss => gCons (tGt c s) (tGts c ss)
theorem gAll_ok {Q : St → Hp → Prop} : ∀ {ss : List (D → Env' → Re Env')} {ds : List D} {vs : List V} {σ : St} {Γ Γ' : Env'} {G H : Hp}, EnvOk c G H σ Γ → Reps c.K G vs ds → gAll ss ds Γ = .ok Γ' →
    (∀ σ' G' H', EnvOk c G' H' σ' Γ' → Same G G' → Q σ' H') → tGts c ss vs σ H Q
  | [], [], _, σ, Γ, Γ', G, H, he, .nil, e, q => by
    cases e
    exact ⟨rfl, q σ G H he (Same.refl _)⟩
  | s :: ss, d :: ds, _, σ, Γ, Γ', G, H, he, .cons (v := v) (vs := vs) r rs, e, q => by
    refine ⟨_, _, rfl, G, Γ, d, he, r, ?_⟩
    have e' : (s d Γ).bind (fun Γ' => gAll ss ds Γ') = .ok Γ' := e
    cases es : s d Γ with
    | bad => rw [es] at e'; cases e'
    | ex x => rw [es] at e'; cases e'
    | ok Γ1 =>
      rw [es] at e'
      exact fun σ1 G1 H1 he1 s1 => gAll_ok he1 (rs.mono s1) e' fun σ2 G2 H2 he2 s2 => q σ2 G2 H2 he2 (s1.trans s2)
  | [], _ :: _, _, _, _, _, _, _, _, _, e, _ => by cases e
  | _ :: _, [], _, _, _, _, _, _, _, _, e, _ => by cases e
def gTupL (ss : List (D → Env' → Re Env')) : D → Env' → Re Env' := fun d Γ => match d with
  | .t ds => gAll ss ds Γ | _ => .bad
theorem gAll_length : ∀ {ss : List (D → Env' → Re Env')} {ds : List D} {Γ Γ' : Env'}, gAll ss ds Γ = .ok Γ' → ds.length = ss.length
  | [], [], _, _, _ => rfl
  | s :: ss, d :: ds, Γ, Γ', e => by
    have e' : (s d Γ).bind (fun Γ' => gAll ss ds Γ') = .ok Γ' := e
    cases es : s d Γ with
    | bad => rw [es] at e'; cases e'
    | ex x => rw [es] at e'; cases e'
    | ok Γ1 => rw [es] at e'; simp [gAll_length (show gAll ss ds Γ1 = .ok Γ' from e')]
  | [], _ :: _, _, _, e => by cases e
  | _ :: _, [], _, _, e => by cases e
theorem rg_nil : PGs X [] (tGts c []) := pgs_nil
theorem rg_cons {s : D → Env' → Re Env'} {ss : List (D → Env' → Re Env')} (h1 : PG X e (tGt c s)) (h2 : PGs X es (tGts c ss))
    (hs : (assignEach (e :: es) X.env).map (·.2) = assign e X.env :: (assignEach es X.env).map (·.2) := by rfl) : PGs X (e :: es) (tGts c (s :: ss)) := pgs_cons h1 h2 hs
theorem rg_tup (cy : Cy X c) {k : Nat} {ss : List (D → Env' → Re Env')} (h : PGs X es (tGts c ss)) (hn : (assignEach es X.env).length = ss.length := by rfl) (hst : (assignEach es X.env).findIdx? (·.1) = none := by rfl) :
    PG X (.Tuple es k pos) (tGt c (gTupL ss)) := by
  refine PG.weak (pg_tup cy.calm h hn hst) ?_
  rintro v σ H Q ⟨G, Γ, d, he, r, q⟩
  cases d with
  | t ds =>
    obtain ⟨a, xs, e1, e2, e3⟩ := r.t_inv
    cases e : gAll ss ds Γ with
    | bad => rw [show gTupL ss (D.t ds) Γ = gAll ss ds Γ from rfl, e] at q; exact q.elim
    | ex x => rw [show gTupL ss (D.t ds) Γ = gAll ss ds Γ from rfl, e] at q; exact q.elim
    | ok Γ' =>
      rw [show gTupL ss (D.t ds) Γ = gAll ss ds Γ from rfl, e] at q
      refine ⟨a, xs, e1, by rw [cy.K]; exact SqT.of (he.gh _ _ e2), by rw [e3.length, gAll_length e], gAll_ok he e3 e q⟩
  | _ => exact q.elim
def sAsgT (s : D → Env' → Re Env') (f : FE) : FS := fun Γ => (f Γ).fl Γ fun r => (share r).fl Γ fun d => match s d Γ with
  | .ok Γ' => .nx Γ' | _ => .bad
theorem rs_asgT {s : D → Env' → Re Env'} {tg : Expr} (hg : PG X tg (tGt c s)) (ha : PE X e (tE c f)) (hs : swapsWithSole [tg] e pos.line X.env = pure false := by rfl) (hw : swappedStores [tg] e X.env = pure none := by rfl)
    (h1 : (assignEach [tg] X.env).map (·.2) = [assign tg X.env] := by rfl) : PS X (.Assign [tg] e pos) (tS c (sAsgT s f)) := by
  refine PS.weak (ps_asg ha hg hs hw h1) ?_
  rintro D σ H ⟨G, Γ, he, q⟩
  refine sS he q fun d v G1 H1 g1 r1 he1 q1 => ⟨G1, Γ, d, he1, r1, ?_⟩
  cases es : s d Γ with
  | bad => rw [es] at q1; exact q1.elim
  | ex x => rw [es] at q1; exact q1.elim
  | ok Γ' => rw [es] at q1; exact q1
def sAug (i : Nat) (k : Rv → Rv → Re Rv) (f : FE) : FS := fun Γ => (eV i Γ).fl Γ fun x => (f Γ).fl Γ fun y => (k x y).fl Γ (setR i Γ)
theorem rs_aug (cy : Cy X c) {i : Nat} {x : Str} {pos' : Pos} {op : Operator} {r : R2} {k : Rv → Rv → Re Rv} (hi : X.N[i]? = some x) (hx : Loc X.env.scope x) (ho : OpR X (inplaceOp op) r) (hk : Ok2 c r k) (ha : PE X e (tE c f))
    (hf : X.fn x = true ∨ X.env.scope.names.lookup x = some .local := by first | exact .inl rfl | exact .inr rfl) : PS X (.AugAssign (.Name x pos') op e pos) (tS c (sAug i k f)) := by
  refine PS.weak (ps_aug cy.nd hi hx ha (ti := r) ho hf) ?_
  rintro D σ H ⟨G, Γ, he, q⟩
  have hx : ∃ rx v, eV i Γ = .ok rx ∧ σ[i]? = some (some v) ∧ RV c G H v rx := by
    unfold sAug at q
    cases e1 : eV i Γ with
    | bad => rw [e1] at q; exact q.elim
    | ex x => unfold eV at e1; split at e1 <;> cases e1
    | ok rx =>
      unfold eV at e1
      split at e1
      · rename_i d hd
        cases e1
        obtain ⟨v, h1, h2, _⟩ := he.at' i _ hd
        exact ⟨_, v, rfl, h1, h2⟩
      · rename_i d hd
        cases e1
        obtain ⟨v, h1, h2, _⟩ := he.at' i _ hd
        exact ⟨_, v, rfl, h1, h2⟩
      · cases e1
  obtain ⟨rx, vx, e1, e2, v0⟩ := hx
  unfold sAug at q
  rw [e1] at q
  refine ⟨vx, e2, ?_⟩
  refine sE he q fun ry y G1 H1 _ g1 v1 fr he1 q1 => ?_
  refine hk σ G1 H1 vx y rx ry _ he1.gh he1.bh (v0.mono g1) v1 ?_
  cases e3 : k rx ry with
  | bad => rw [e3] at q1; exact q1
  | ex x => rw [e3] at q1; exact fun G' H' g => q1 σ G' H' (he1.mono g) g.gg
  | ok rz =>
    rw [e3] at q1
    exact fun z G2 H2 g2 v2 fr2 => set_env he1 g2 v2 fr2 q1
end
end Ly
end

section
set_option maxRecDepth 100000
namespace Ly
open PySem PySem.Spec L2
open PyProof.Rows hiding St
variable [Tb]

structure WalkOk (K : PySem.W.Frag) (G : Hp) (J : It) (ds : List D) : Prop where
  go : ∀ (G1 H1 : Hp), Same G G1 → Same G1 H1 → ∀ (i : Nat) (d : D), ds[i]? = some d → J.go i H1 ∧ ∀ x H2, J.yld i H1 x H2 → ∃ G2, Gr G1 H1 G2 H2 ∧ Rep K G2 x d
  stop : ∀ (H1 : Hp), Same G H1 → ∀ i, ds.length ≤ i → J.stop i H1
def PostI (c : LC) (re : Re (List D)) (σ : St) (G H : Hp) (R : It → Hp → Prop) : Prop := match re with
  | .ok ds => ∀ J G' H', Gr G H G' H' → WalkOk c.K G' J ds → R J H'
  | .ex e => ∀ G' H', Gr G H G' H' → ExAt c (fun C d H' => c.W C d σ H') e G' H'
  | .bad => False
def tI (c : LC) (f : FI) : TI := fun σ H R => ∃ G Γ, EnvOk c G H σ Γ ∧ PostI c (f Γ) σ G H R
theorem PI.weak {X : Cx} {tg e : Expr} {t t' : TI} (h : PI X tg e t) (w : ∀ σ H R, t' σ H R → t σ H R) : PI X tg e t' := ⟨fun pins s σ H R I q => h.run pins s σ H R I (w _ _ _ q)⟩
theorem PostI.later {c : LC} {re : Re (List D)} {σ : St} {G H G1 H1 : Hp} {R : It → Hp → Prop} (g : Gr G H G1 H1) (h : PostI c re σ G H R) : PostI c re σ G1 H1 R := by
  cases re with
  | bad => exact h
  | ex x => exact Post.ex_later g h
  | ok ds => exact fun J G2 H2 g2 w => h J G2 H2 (g.trans g2) w
section
variable {X : Cx} {c : LC} {a b e tg : Expr} {es : List Expr} {f g h : FE} {fi : FI} {fa : FA} {pos : Pos}
theorem iE {σ : St} {H : Hp} {G : Hp} {Γ : Env'} {Q : It → Hp → Prop} {k : Rv → Re (List D)} {R : VK} (he : EnvOk c G H σ Γ) (h : PostI c ((f Γ).bind k) σ G H Q)
    (hk : ∀ r v G' H', f Γ = .ok r → Gr G H G' H' → RV c G' H' v r → Fresh H v r → EnvOk c G' H' σ Γ → PostI c (k r) σ G' H' Q → R v H') : tE c f σ H R :=
  tE_bind (P := fun r G H => PostI c r σ G H Q) he (fun _ _ h => h) (fun _ _ _ h => h) (fun _ _ _ _ _ g h => h.later g) h hk
theorem iE0 {σ : St} {H : Hp} {G : Hp} {Γ : Env'} {Q : It → Hp → Prop} {k : Rv → Re (List D)} {R : VK} (he : EnvOk c G H σ Γ) (h : PostI c ((f Γ).bind k) σ G H Q)
    (hk : ∀ r v G' H', f Γ = .ok r → Gr G H G' H' → RV c G' H' v r → Fresh H v r → PostI c (k r) σ G H Q → R v H') : tE c f σ H R :=
  tE_bind0 (P := fun r => PostI c r σ G H Q) he (fun h => h) (fun x h => h) h hk
def itL (f : FE) : FI := fun Γ => (f Γ).bind fun r => (share r).bind fun d => match d.seq? with
  | some ds => .ok ds | none => .bad
theorem walk_list {K : PySem.W.Frag} {G : Hp} {a : Addr} {xs : List V} {ds : List D} (h : SqL K G a xs) (r : Reps K G xs ds) : WalkOk K G (Itl K a) ds := by
  refine ⟨fun G1 H1 s1 s2 i d hi => ?_, fun H1 s1 i hi => ⟨xs, s1.seq h, by rw [r.length]; exact hi⟩⟩
  obtain ⟨v, hv, rv⟩ := r.get' hi
  have h1 := s2.seq (s1.seq h)
  refine ⟨⟨xs, v, h1, hv⟩, ?_⟩
  rintro x H2 ⟨rfl, hx⟩
  have e := hx xs h1
  rw [hv] at e
  cases e
  exact ⟨G1, .refl s2, rv.mono s1⟩
theorem ri_list (cy : Cy X c) (ha : PE X e (tE c f)) : PI X tg e (tI c (itL f)) := by
  refine PI.weak (pi_list ha) ?_
  rintro σ H R ⟨G, Γ, he, q⟩
  refine iE0 he q fun r v G1 H1 eq1 g1 v1 fr q1 => ?_
  cases e1 : share r with
  | bad => rw [e1] at q1; exact q1.elim
  | ex x => cases r <;> cases e1
  | ok d =>
    rw [e1] at q1
    obtain ⟨G2, g2, s2, rp⟩ := v1.share g1 fr e1
    simp only [Re.bind_ok] at q1
    rw [cy.K]
    cases d with
    | l ds =>
      obtain ⟨a, xs, rfl, h1, h2⟩ := rp.l_inv
      exact ⟨a, rfl, ⟨xs, .of (g2.gh _ _ h1)⟩, q1 _ _ _ g2 (walk_list (.of h1) h2)⟩
    | z ds =>
      obtain ⟨a, xs, rfl, h1, h2⟩ := rp.z_inv
      exact ⟨a, rfl, ⟨xs, g2.gh.seq h1⟩, q1 _ _ _ g2 (walk_list h1 h2)⟩
    | _ => exact q1.elim
def itT (f : FE) : FI := fun Γ => (f Γ).bind fun r => match r with
  | .sh (.t ds) => .ok ds | .sh (.zt ds) => .ok ds | _ => .bad
theorem walk_tup {K : PySem.W.Frag} {G : Hp} {a : Addr} {xs : List V} {ds : List D} (h1 : SqT K G a xs) (h2 : Reps K G xs ds) : WalkOk K G (Itt K a) ds := by
  refine ⟨fun G2 H2 s1 s2 i d hi => ?_, fun H2 s1 i hi => ⟨xs, Same.tup s1 h1, by rw [h2.length]; exact hi⟩⟩
  obtain ⟨v, hv, rv⟩ := h2.get' hi
  have h3 := Same.tup s2 (Same.tup s1 h1)
  refine ⟨⟨xs, v, h3, hv⟩, ?_⟩
  rintro x H3 ⟨rfl, hx⟩
  have e := hx xs h3
  rw [hv] at e
  cases e
  exact ⟨G2, .refl s2, rv.mono s1⟩
theorem ri_tup (cy : Cy X c) (ha : PE X e (tE c f)) : PI X tg e (tI c (itT f)) := by
  refine PI.weak (pi_tup ha) ?_
  rintro σ H R ⟨G, Γ, he, q⟩
  refine iE he q fun r v G1 H1 eq1 g1 v1 fr he1 q1 => ?_
  split at q1
  · rename_i ds
    obtain ⟨a, xs, rfl, h1, h2⟩ := Rep.t_inv v1
    rw [cy.K]
    exact ⟨a, rfl, ⟨xs, SqT.of (he1.gh _ _ h1)⟩, q1 _ G1 H1 (.refl he1.gh) (walk_tup (SqT.of h1) h2)⟩
  · rename_i ds
    obtain ⟨a, xs, rfl, h1, h2⟩ := Rep.zt_inv v1
    rw [cy.K]
    exact ⟨a, rfl, ⟨xs, Same.tup he1.gh h1⟩, q1 _ G1 H1 (.refl he1.gh) (walk_tup h1 h2)⟩
  · exact q1.elim
def rgb (a b : Int) : Bool := decide (-(2 ^ 62) ≤ a ∧ a < 2 ^ 62 ∧ -(2 ^ 62) ≤ b ∧ b < 2 ^ 62)
theorem walk_range {K : PySem.W.Frag} {G : Hp} {lo : Int} {n : Nat} : WalkOk K G (Itr lo n) ((List.range n).map fun k => D.i (lo + (k : Nat))) := by
  refine ⟨fun G1 H1 s1 s2 i d hi => ?_, fun H1 s1 i hi => (by simpa using hi : n ≤ i)⟩
  rw [List.getElem?_map] at hi
  have hin : i < n := by
    rcases Nat.lt_or_ge i n with h | h
    · exact h
    · rw [List.getElem?_eq_none (by simpa using h)] at hi; cases hi
  rw [List.getElem?_range hin] at hi
  cases hi
  refine ⟨hin, ?_⟩
  rintro x H2 ⟨rfl, rfl⟩
  exact ⟨G1, .refl s2, .i _⟩
def itR (lo hi : Int) : Re (List D) := if rgb lo hi = true then .ok (rgD lo hi) else .bad
def itR1 (f : FE) : FI := fun Γ => (f Γ).bind fun r => match r with
  | .sh (.i j) => itR 0 j | _ => .bad
theorem ri_range1 {p : Pos} (hg : Gl X "range") (hm : X.mg "range" = none) (ha : PE X a (tE c f)) (hs : starEach [a] X.env = [(false, eval a X.env)] := by rfl) : PI X tg (.Call (.Name "range" p) [a] [] pos) (tI c (itR1 f)) := by
  refine PI.weak (pi_range1 hg hm (pa_cons ha pa_nil hs) hs) ?_
  rintro σ H R ⟨G, Γ, he, q⟩
  refine iE he q fun r v G1 H1 eq1 g1 v1 fr he1 q1 => ?_
  split at q1
  · rename_i j
    unfold itR at q1
    split at q1
    · rename_i hb
      obtain ⟨_, _, h3, h4⟩ := of_decide_eq_true hb
      cases (Rep.int_inv v1)
      refine ⟨j, rfl, h3, h4, q1 _ G1 H1 (.refl he1.gh) ?_⟩
      have w := walk_range (K := c.K) (G := G1) (lo := 0) (n := j.toNat)
      unfold rgD
      rw [Int.sub_zero]
      exact w
    · exact q1.elim
  · exact q1.elim
def itR2 (f g : FE) : FI := fun Γ => (f Γ).bind fun r => (g Γ).bind fun s => match r, s with
  | .sh (.i i), .sh (.i j) => itR i j | _, _ => .bad
theorem ri_range2 {p : Pos} (hg : Gl X "range") (hm : X.mg "range" = none) (ha : PE X a (tE c f)) (hb : PE X b (tE c g)) (hs : starEach [a, b] X.env = [(false, eval a X.env), (false, eval b X.env)] := by rfl) (hs2 : starEach [b] X.env = [(false, eval b X.env)] := by rfl) :
    PI X tg (.Call (.Name "range" p) [a, b] [] pos) (tI c (itR2 f g)) := by
  refine PI.weak (pi_range2 hg hm (pa_cons ha (pa_cons hb pa_nil hs2) (by rw [hs, hs2])) hs hs2) ?_
  rintro σ H R ⟨G, Γ, he, q⟩
  refine iE he q fun r v G1 H1 eq1 g1 v1 fr he1 q1 => ?_
  refine iE he1 q1 fun s w G2 H2 eq2 g2 v2 fr2 he2 q2 => ?_
  split at q2
  · rename_i i j
    unfold itR at q2
    split at q2
    · rename_i hb
      cases (Rep.int_inv v1)
      cases (Rep.int_inv v2)
      exact ⟨i, j, rfl, of_decide_eq_true hb, q2 _ G2 H2 (.refl he2.gh) walk_range⟩
    · exact q2.elim
  · exact q2.elim
def rg3 (lo st : Int) (n : Nat) : List D := (List.range n).map fun k => D.i (lo + (k : Nat) * st)
def itR3 (f g h : FE) : FI := fun Γ => (f Γ).bind fun r => (g Γ).bind fun s => (h Γ).bind fun t => match r, s, t with
  | .sh (.i i), .sh (.i j), .sh (.i k) => if k ≠ 0 ∧ k.natAbs < 1073741824 ∧ Builtin.Range.small i j k = true then .ok (rg3 i k (Builtin.Range.rangeSize i j k).toNat) else .bad
  | _, _, _ => .bad
theorem rangeSize_nn (i j k : Int) : Builtin.Range.rangeSize i j k = ((Builtin.Range.rangeSize i j k).toNat : Int) := by
  have h : 0 ≤ Builtin.Range.rangeSize i j k := by
    unfold Builtin.Range.rangeSize
    by_cases hk : k > 0
    · rw [if_pos hk]
      by_cases hij : i < j
      · rw [if_pos hij]
        have := Int.ediv_nonneg (a := j - i - 1) (b := k) (by omega) (by omega)
        omega
      · rw [if_neg hij]; exact Int.le_refl _
    · rw [if_neg hk]
      by_cases hij : i > j
      · rw [if_pos hij]
        have := Int.ediv_nonneg (a := i - j - 1) (b := -k) (by omega) (by omega)
        omega
      · rw [if_neg hij]; exact Int.le_refl _
  omega
theorem ri_range3 {d : Expr} {p : Pos} (hg : Gl X "range") (hm : X.mg "range" = none) (ha : PE X a (tE c f)) (hb : PE X b (tE c g)) (hd : PE X d (tE c h)) (hs : starEach [a, b, d] X.env = (false, eval a X.env) :: starEach [b, d] X.env := by rfl)
    (hs2 : starEach [b, d] X.env = (false, eval b X.env) :: starEach [d] X.env := by rfl) (hs3 : starEach [d] X.env = [(false, eval d X.env)] := by rfl) (hpl : (backTo pos (starEach [b, d] X.env)).any (·.1) = false := by rfl) :
    PI X tg (.Call (.Name "range" p) [a, b, d] [] pos) (tI c (itR3 f g h)) := by
  refine PI.weak (pi_range3 hg hm (pa_cons ha (pa_cons hb (pa_cons hd pa_nil hs3) hs2) hs) hs hpl) ?_
  rintro σ H R ⟨G, Γ, he, q⟩
  refine iE he q fun r v G1 H1 eq1 g1 v1 fr he1 q1 => ?_
  refine iE he1 q1 fun s w G2 H2 eq2 g2 v2 fr2 he2 q2 => ?_
  refine iE he2 q2 fun t u G3 H3 eq3 g3 v3 fr3 he3 q3 => ?_
  split at q3
  · rename_i i j k
    split at q3
    · rename_i hc
      cases (Rep.int_inv v1)
      cases (Rep.int_inv v2)
      cases (Rep.int_inv v3)
      refine ⟨i, j, k, (Builtin.Range.rangeSize i j k).toNat, rfl, ⟨hc.1, hc.2.1, hc.2.2, rangeSize_nn i j k⟩, q3 _ G3 H3 (.refl he3.gh) ?_⟩
      refine ⟨fun G4 H4 s1 s2 m d hi => ?_, fun H1 s1 m hm => (show (Builtin.Range.rangeSize i j k).toNat ≤ m by simpa only [rg3, List.length_map, List.length_range] using hm)⟩
      unfold rg3 at hi
      rw [List.getElem?_map] at hi
      have hin : m < (Builtin.Range.rangeSize i j k).toNat := by
        rcases Nat.lt_or_ge m (Builtin.Range.rangeSize i j k).toNat with h | h
        · exact h
        · rw [List.getElem?_eq_none (by simpa using h)] at hi; cases hi
      rw [List.getElem?_range hin] at hi
      cases hi
      refine ⟨hin, ?_⟩
      rintro x H5 ⟨rfl, rfl⟩
      exact ⟨G4, .refl s2, .i _⟩
    · exact q3.elim
  · exact q3.elim
def signs (x : Str) : List D := x.cps.toList.map fun k => D.s ⟨#[k]⟩
def itS (f : FE) : FI := fun Γ => (f Γ).bind fun r => match r with
  | .sh (.s x) => .ok (signs x) | _ => .bad
theorem ri_str (ha : PE X e (tE c f)) : PI X tg e (tI c (itS f)) := by
  refine PI.weak (pi_str ha) ?_
  rintro σ H R ⟨G, Γ, he, q⟩
  refine iE he q fun r v G1 H1 eq1 g1 v1 fr he1 q1 => ?_
  split at q1
  · rename_i x
    refine ⟨x, Rep.str_inv v1, q1 _ G1 H1 (.refl he1.gh) ⟨fun G2 H2 s1 s2 i d hi => ?_, fun H2 s1 i hi => (show x.cps.size ≤ i by simpa [signs] using hi)⟩⟩
    unfold signs at hi
    rw [List.getElem?_map] at hi
    cases ec : x.cps[i]? with
    | none => simp [ec] at hi
    | some k =>
      have hi' : D.s ⟨#[k]⟩ = d := by simpa [ec] using hi
      subst hi'
      refine ⟨(Array.getElem?_eq_some_iff.mp ec).1, ?_⟩
      rintro y H3 ⟨rfl, k', hk', rfl⟩
      rw [ec] at hk'
      cases hk'
      exact ⟨G2, .refl s2, .s _⟩
  · exact q1.elim
def enumD (ds : List D) : List D := (List.range ds.length).zipWith (fun (k : Nat) d => D.t [.i (k : Nat), d]) ds
def itE (f : FE) : FI := fun Γ => (f Γ).bind fun r => (share r).bind fun d => match d.seq? with
  | some ds => .ok (enumD ds) | none => .bad
theorem enumD_get {ds : List D} {i : Nat} {d : D} (h : (enumD ds)[i]? = some d) : ∃ e, ds[i]? = some e ∧ d = .t [.i (i : Nat), e] := by
  unfold enumD at h
  rw [List.getElem?_zipWith] at h
  cases e1 : ds[i]? with
  | none => rw [e1] at h; cases e2 : (List.range ds.length)[i]? <;> rw [e2] at h <;> cases h
  | some e =>
    have hl : i < ds.length := (List.getElem?_eq_some_iff.mp e1).1
    rw [e1, List.getElem?_range hl] at h
    exact ⟨e, rfl, (Option.some.inj h).symm⟩
theorem ri_enum (cy : Cy X c) {p tpos : Pos} {elts : List Expr} {kk : Nat} (hg : Gl X "enumerate") (hm : X.mg "enumerate" = none) (ha : PE X e (tE c f)) (hs : starEach [e] X.env = [(false, eval e X.env)] := by rfl) :
    PI X (.Tuple elts kk tpos) (.Call (.Name "enumerate" p) [e] [] pos) (tI c (itE f)) := by
  refine PI.weak (pi_enum hg hm (pa_cons ha pa_nil hs) hs) ?_
  rintro σ H R ⟨G, Γ, he, q⟩
  refine iE0 he q fun r v G1 H1 eq1 g1 v1 fr q1 => ?_
  cases e1 : share r with
  | bad => rw [e1] at q1; exact q1.elim
  | ex x => cases r <;> cases e1
  | ok d =>
    rw [e1] at q1
    obtain ⟨G2, g2, s2, rp⟩ := v1.share g1 fr e1
    simp only [Re.bind_ok] at q1
    rw [cy.K]
    have main : ∀ (a : Addr) (xs : List V) (ds : List D), SqL c.K G2 a xs → Reps c.K G2 xs ds → WalkOk c.K G2 (Ite c.K a) (enumD ds) := by
      intro a xs ds h1 h2
      refine ⟨fun G3 H3 s1 s2 i d hi => ?_, fun H3 s1 i hi => ⟨xs, s1.seq h1, by rw [h2.length]; simpa [enumD] using hi⟩⟩
      obtain ⟨e, he, rfl⟩ := enumD_get hi
      obtain ⟨v, hv, rv⟩ := h2.get' he
      have h3 := s2.seq (s1.seq h1)
      refine ⟨⟨xs, v, h3, hv⟩, ?_⟩
      rintro x H4 ⟨T, y, rfl, hT, rfl, hy⟩
      have ey := hy xs h3
      rw [hv] at ey
      cases ey
      have g := Gr.new (o := .tup [.int (i : Nat), v]) s2 hT
      exact ⟨_, g, .t upd_same (.cons (.i _) (.cons ((rv.mono s1).mono g.gg) .nil))⟩
    cases d with
    | l ds =>
      obtain ⟨a, xs, rfl, h1, h2⟩ := rp.l_inv
      exact ⟨a, xs, rfl, .of (g2.gh _ _ h1), q1 _ _ _ g2 (main a xs ds (.of h1) h2)⟩
    | z ds =>
      obtain ⟨a, xs, rfl, h1, h2⟩ := rp.z_inv
      exact ⟨a, xs, rfl, g2.gh.seq h1, q1 _ _ _ g2 (main a xs ds h1 h2)⟩
    | _ => exact q1.elim
end
end Ly
end

section
set_option maxRecDepth 100000
namespace Ly
open PySem PySem.Spec L2
open PyProof.Rows hiding St
variable [Tb]

section
variable {X : Cx} {c : LC} {a b e tg : Expr} {es : List Expr} {f g h : FE} {ft : FT} {fi : FI} {fa : FA} {u v : FS} {pos : Pos} {body : List Stmt}
def forL (t : Tg) (u : FS) : List D → Env' → Fl
  | [], Γ => .nx Γ
  | d :: ds, Γ => match t.set d Γ with
    | none => .bad
    | some Γ1 => match u Γ1 with
      | .nx Γ' => forL t u ds Γ'
      | .ct Γ' => forL t u ds Γ'
      | .bk Γ' => .nx Γ'
      | .rt r => .rt r
      | .ex e Γ' => .ex e Γ'
      | .bad => .bad
def sFor (fi : FI) (t : Tg) (u : FS) : FS := fun Γ => (fi Γ).fl Γ fun ds => forL t u ds Γ
theorem rs_for (hp : PassesOwn (model X.prog X.w) X.A X.env X.xe) (cy : Cy X c) {iter : Expr} {t : Tg} (hi : PI X tg iter (tI c fi)) (hg : PG X tg (t.tgt c.K)) (hb : PSs X body (tS c u))
    (hs : ∀ x, foldedSetIterable iter X.env x = pure x := by intro _; rfl) : PS X (.For tg iter body [] pos) (tS c (sFor fi t u)) := by
  refine PS.weak (ps_for hp cy.calm hi hg hb hs) ?_
  rintro D σ H ⟨G, Γ, he, q⟩
  unfold sFor at q
  refine ⟨G, Γ, he, ?_⟩
  cases ef : fi Γ with
  | bad => rw [ef] at q; exact q
  | ex x => rw [ef] at q; exact fun G' H' g => q σ G' H' (he.mono g) g.gg
  | ok ds =>
    rw [ef] at q
    intro J G1 H1 g1 w
    refine ⟨fun i m σ' H' => m = ds.length - i ∧ i ≤ ds.length ∧ ∃ Gi Γi, EnvOk c Gi H' σ' Γi ∧ Same G1 Gi ∧ PostS c (forL t u (ds.drop i) Γi) Gi D,
      ⟨ds.length, by simp, Nat.zero_le _, G1, Γ, he.mono g1, Same.refl _, PostS.later g1.gg q⟩, ?_⟩
    rintro i m σ' H' ⟨rfl, hi, Gi, Γi, hei, si, qi⟩
    by_cases hl : i < ds.length
    · obtain ⟨d, hd⟩ : ∃ d, ds[i]? = some d := ⟨ds[i], by simp [hl]⟩
      have hdrop : ds.drop i = d :: ds.drop (i + 1) := by
        rw [List.drop_eq_getElem_cons hl]
        congr 1
        simpa [hl] using hd
      rw [hdrop] at qi
      obtain ⟨go, yl⟩ := w.go Gi H' si hei.gh i d hd
      refine .inr ⟨go, fun σ'' H'' => ∃ Gj Γj, EnvOk c Gj H'' σ'' Γj ∧ Same G1 Gj ∧ PostS c (forL t u (ds.drop (i + 1)) Γj) Gj D,
        fun σ'' H'' ⟨Gj, Γj, hej, sj, qj⟩ => ⟨ds.length - (i + 1), by omega, rfl, hl, Gj, Γj, hej, sj, qj⟩, fun x H2 hy => ?_⟩
      obtain ⟨G2, g2, r2⟩ := yl x H2 hy
      have he2 := hei.mono g2
      unfold forL at qi
      cases et : t.set d Γi with
      | none => rw [et] at qi; exact qi.elim
      | some Γ1 =>
        rw [et] at qi
        refine Tg.ok he2 r2 et fun σ2 he3 _ => ⟨G2, Γ1, he3, ?_⟩
        have s2 : Same G1 G2 := si.trans g2.gg
        have qi : PostS c (match u Γ1 with | .nx Γ' => forL t u (ds.drop (i + 1)) Γ' | .ct Γ' => forL t u (ds.drop (i + 1)) Γ' | .bk Γ' => .nx Γ' | .rt r => .rt r | .ex e Γ' => .ex e Γ' | .bad => .bad) G2 D := PostS.later g2.gg qi
        cases eu : u Γ1 with
        | nx Γ' => rw [eu] at qi; exact fun σ3 G3 H3 he4 s3 => ⟨G3, Γ', he4, s2.trans s3, PostS.later s3 qi⟩
        | ct Γ' => rw [eu] at qi; exact fun σ3 G3 H3 he4 s3 => ⟨G3, Γ', he4, s2.trans s3, PostS.later s3 qi⟩
        | bk Γ' => rw [eu] at qi; exact qi
        | rt r => rw [eu] at qi; exact qi
        | ex x Γ' => rw [eu] at qi; exact qi
        | bad => rw [eu] at qi; exact qi
    · have ei : i = ds.length := by omega
      subst ei
      refine .inl ⟨w.stop H' (si.trans hei.gh) _ (Nat.le_refl _), ?_⟩
      rw [List.drop_length] at qi
      exact qi σ' Gi H' hei (Same.refl _)

def whL (t : FT) (u : FS) : Nat → Env' → Fl
  | 0, _ => .bad
  | n + 1, Γ => (t Γ).fl Γ fun b => if b = true then (match u Γ with
      | .nx Γ' => whL t u n Γ'
      | .ct Γ' => whL t u n Γ'
      | .bk Γ' => .nx Γ'
      | .rt r => .rt r
      | .ex e Γ' => .ex e Γ'
      | .bad => .bad) else .nx Γ
def sWh (n : Nat) (t : FT) (u : FS) : FS := fun Γ => whL t u n Γ
theorem rs_while (hp : PassesOwn (model X.prog X.w) X.A X.env X.xe) (n : Nat) (hc : PT X a (tT c ft)) (hb : PSs X body (tS c u)) : PS X (.While a body [] pos) (tS c (sWh n ft u)) := by
  refine PS.weak (ps_while hp hc hb) ?_
  rintro D σ H ⟨G, Γ, he, q⟩
  refine ⟨fun m σ H => ∃ G Γ, EnvOk c G H σ Γ ∧ PostS c (whL ft u m Γ) G D, ⟨n, G, Γ, he, q⟩, ?_⟩
  rintro m σ H ⟨G, Γ, he, q⟩
  cases m with
  | zero => exact q.elim
  | succ m =>
    unfold whL at q
    refine sT he q fun k G1 H1 _ g1 he1 q1 => ?_
    cases k with
    | true =>
      rw [if_pos rfl] at q1 ⊢
      refine ⟨fun σ' H' => ∃ G' Γ', EnvOk c G' H' σ' Γ' ∧ PostS c (whL ft u m Γ') G' D, fun σ' H' h => ⟨m, Nat.lt_succ_self _, h⟩, G1, Γ, he1, ?_⟩
      cases eu : u Γ with
      | nx Γ' => rw [eu] at q1; exact fun σ3 G3 H3 he4 s3 => ⟨G3, Γ', he4, PostS.later s3 q1⟩
      | ct Γ' => rw [eu] at q1; exact fun σ3 G3 H3 he4 s3 => ⟨G3, Γ', he4, PostS.later s3 q1⟩
      | bk Γ' => rw [eu] at q1; exact q1
      | rt r => rw [eu] at q1; exact q1
      | ex x Γ' => rw [eu] at q1; exact q1
      | bad => rw [eu] at q1; exact q1
    | false =>
      rw [if_neg Bool.false_ne_true] at q1 ⊢
      exact q1 σ G1 H1 he1 (Same.refl _)

def LC.calm (c : LC) : LC := { c with W := fun _ _ _ _ => False }
theorem EnvOk.calm {G H : Hp} {σ : St} {Γ : Env'} (e : EnvOk c G H σ Γ) : EnvOk c.calm G H σ Γ := ⟨e.bh, e.g0, e.gh, e.gf, e.gt, e.tb, e.len, e.at', e.sep⟩
theorem EnvOk.hot {G H : Hp} {σ : St} {Γ : Env'} (e : EnvOk c.calm G H σ Γ) : EnvOk c G H σ Γ := ⟨e.bh, e.g0, e.gh, e.gf, e.gt, e.tb, e.len, e.at', e.sep⟩
def wipeG (Γ : Env') : List Nat → Env'
  | [] => Γ
  | v :: vs => (wipeG Γ vs).set v none
theorem wipeG_length (Γ : Env') : ∀ vs : List Nat, (wipeG Γ vs).length = Γ.length
  | [] => rfl
  | v :: vs => by unfold wipeG; rw [List.length_set, wipeG_length Γ vs]
theorem wipeG_some {Γ : Env'} {i : Nat} {x : Rv} : ∀ {vs : List Nat}, (wipeG Γ vs)[i]? = some (some x) → Γ[i]? = some (some x) ∧ i ∉ vs
  | [], h => ⟨h, by simp⟩
  | v :: vs, h => by
    unfold wipeG at h
    by_cases hi : v = i
    · subst hi
      by_cases hv : v < (wipeG Γ vs).length
      · rw [List.getElem?_set_self hv] at h; cases h
      · rw [List.getElem?_eq_none (by simpa using hv)] at h; cases h
    · rw [List.getElem?_set_ne hi] at h
      obtain ⟨h1, h2⟩ := wipeG_some h
      exact ⟨h1, by simp only [List.mem_cons, not_or]; exact ⟨fun e => hi e.symm, h2⟩⟩
theorem EnvOk.wipe {G H : Hp} {σ : St} {Γ : Env'} (e : EnvOk c G H σ Γ) (vs : List Nat) : EnvOk c G H (L2.wipe σ vs) (wipeG Γ vs) := by
  refine ⟨e.bh, e.g0, e.gh, e.gf, e.gt, e.tb, by rw [wipe_length, wipeG_length]; exact e.len, fun i r hi => ?_, fun i j x y p hi hj si sj => ?_⟩
  · obtain ⟨h1, h2⟩ := wipeG_some hi
    obtain ⟨v, h3, h4, h5⟩ := e.at' i r h1
    exact ⟨v, by rw [wipe_out h2]; exact h3, h4, h5⟩
  · obtain ⟨h1, h2⟩ := wipeG_some hi
    obtain ⟨h3, h4⟩ := wipeG_some hj
    rw [wipe_out h2] at si
    rw [wipe_out h4] at sj
    exact e.sep i j x y p h1 h3 si sj
theorem wipe_in {σ τ : St} (hl : σ.length = τ.length) : ∀ (vs : List Nat), (∀ j, j ∉ vs → σ[j]? = τ[j]?) → L2.wipe σ vs = L2.wipe τ vs := by
  intro vs hj
  apply List.ext_getElem?
  intro j
  by_cases hv : j ∈ vs
  · have at1 : ∀ (ρ : St) (ws : List Nat), j ∈ ws → (L2.wipe ρ ws)[j]? = if j < ρ.length then some none else none := by
      intro ρ ws
      induction ws with
      | nil => intro h; cases h
      | cons v ws ih =>
        intro h
        unfold L2.wipe
        by_cases e : v = j
        · subst e
          by_cases hv : v < ρ.length
          · rw [List.getElem?_set_self (by rw [wipe_length]; exact hv), if_pos hv]
          · rw [List.getElem?_eq_none (by rw [List.length_set, wipe_length]; omega), if_neg hv]
        · rw [List.getElem?_set_ne e]
          rcases List.mem_cons.mp h with z | z
          · exact absurd z.symm e
          · exact ih z
    rw [at1 σ vs hv, at1 τ vs hv, hl]
  · rw [wipe_out hv, wipe_out hv]
    exact hj j hv
def lcStep (t : Tg) (ft : FT) (fe : FE) (Γ0 : Env') (d : D) : Re (List D) := match t.set d Γ0 with
  | none => .bad
  | some Γ1 => (ft Γ1).bind fun b => if b = true then (fe Γ1).bind fun r => (share r).bind fun y => .ok [y] else .ok []
def lcL (t : Tg) (ft : FT) (fe : FE) (Γ0 : Env') : List D → Re (List D)
  | [] => .ok []
  | d :: ds => (lcStep t ft fe Γ0 d).bind fun y => (lcL t ft fe Γ0 ds).bind fun ys => .ok (y ++ ys)
def lcRes : Re (List D) → Re Rv
  | .ok ys => if ys.length ≤ 16777216 then .ok (.fr (.l ys)) else .bad
  | _ => .bad
def eLc (fi : FI) (t : Tg) (ft : FT) (fe : FE) (own : List Nat) : FE := fun Γ => (fi Γ).bind fun ds => lcRes (lcL t ft fe (wipeG Γ own) ds)
def tYesF : FT := fun _ => .ok true
theorem rts_nil : PTs X [] (tT c tYesF) := ⟨fun pins s σ H Q I ⟨G, Γ, he, q⟩ => pts_nil.run pins s σ H Q I (q G H (.refl he.gh))⟩
theorem rts_one (ha : PT X a (tT c ft)) : PTs X [a] (tT c ft) := pts_one ha
theorem lcStep_ok {t : Tg} {fe : FE} {Γ0 : Env'} {d : D} {y : List D} (h : lcStep t ft fe Γ0 d = .ok y) : ∃ Γ1, t.set d Γ0 = some Γ1 ∧ ((ft Γ1 = .ok false ∧ y = []) ∨ ∃ r z, ft Γ1 = .ok true ∧ fe Γ1 = .ok r ∧ share r = .ok z ∧ y = [z]) := by
  unfold lcStep at h
  cases et : t.set d Γ0 with
  | none => rw [et] at h; cases h
  | some Γ1 =>
    rw [et] at h
    refine ⟨Γ1, rfl, ?_⟩
    cases eb : ft Γ1 with
    | bad => simp [eb] at h
    | ex x => simp [eb] at h
    | ok k =>
      cases k with
      | false => simp [eb] at h; exact .inl ⟨rfl, h⟩
      | true =>
        simp only [eb, Re.bind_ok, if_true] at h
        cases er : fe Γ1 with
        | bad => simp [er] at h
        | ex x => simp [er] at h
        | ok r =>
          simp only [er, Re.bind_ok] at h
          cases es : share r with
          | bad => simp [es] at h
          | ex x => simp [es] at h
          | ok z => simp only [es, Re.bind_ok, Re.ok.injEq] at h; exact .inr ⟨r, z, rfl, rfl, es, h.symm⟩
theorem Tg.set_length {t : Tg} {d : D} {Γ Γ' : Env'} (h : t.set d Γ = some Γ') : Γ'.length = Γ.length := by
  have all : ∀ (is : List Nat) (ds : List D) (Γ Γ' : Env'), setN is ds Γ = some Γ' → Γ'.length = Γ.length := by
    intro is
    induction is with
    | nil => intro ds Γ Γ' h; cases ds <;> cases h; rfl
    | cons i is ih =>
      intro ds Γ Γ' h
      cases ds with
      | nil => cases h
      | cons d ds => rw [ih ds _ Γ' h, List.length_set]
  cases t with
  | one i => cases h; exact List.length_set ..
  | tup is =>
    cases d with
    | t ds => exact all is ds Γ Γ' h
    | _ => cases h
theorem lc_main {t : Tg} {fe : FE} {own : List Nat} {σ : St} {H : Hp} {Q : VK} {G : Hp} {Γ : Env'} {ds ys : List D} (hix : ∀ j ∈ t.ix, j ∈ own) (he : EnvOk c G H σ Γ) (hl : lcL t ft fe (wipeG Γ own) ds = .ok ys) (hz : ys.length ≤ 16777216)
    (q : ∀ p G' H', Gr G H G' H' → Non H p → G' p = none → Own c.K G' H' p (.l ys) → Q (.ref p) H') {J : It} {G1 H1 : Hp} (g1 : Gr G H G1 H1) (w : WalkOk c.K G1 J ds) :
    ∀ D, H1 D = none → ∃ W : Nat → Nat → Hp → Prop, (∃ m, W 0 m (upd H1 D (.lst []))) ∧ ∀ i m H, W i m H →
      (J.stop i H ∧ Q (.ref D) H) ∨ (J.go i H ∧ ∃ Nx : Hp → Prop, (∀ H', Nx H' → ∃ m', m' < m ∧ W (i + 1) m' H') ∧ ∀ x H', J.yld i H x H' → t.tgt c.K x (wipe σ own) H' fun σ2 H2 => wipe σ2 own = wipe σ own ∧ tT c.calm ft σ2 H2 fun b H3 =>
        if b = true then tE c.calm fe σ2 H3 fun y H4 => ∃ acc, H4 D = some (.lst acc) ∧ acc.length < sizeLine ∧ Nx (upd H4 D (.lst (acc ++ [y]))) else Nx H3) := by
  intro D hD
  have hD0 : Non H D := Kept.non g1.hh (.of hD)
  have g1D : G1 D = none := g1.gh.free hD
  let Inv : Nat → Hp → Prop := fun i H' => ∃ Gi acc dn rs, Gr G1 H1 Gi H' ∧ Gi D = none ∧ H' D = some (.lst acc) ∧ Reps c.K Gi acc dn ∧ lcL t ft fe (wipeG Γ own) (ds.drop i) = .ok rs ∧ dn ++ rs = ys
  refine ⟨fun i m H' => m = ds.length - i ∧ i ≤ ds.length ∧ Inv i H', ⟨ds.length, by simp, Nat.zero_le _, G1, [], [], ys, .own g1.gh hD, g1D, upd_same, .nil, hl, rfl⟩, ?_⟩
  rintro i m H' ⟨rfl, hi, Gi, acc, dn, rs, gi, gD, aD, ra, hr, hy⟩
  by_cases hlt : i < ds.length
  · obtain ⟨d, hd⟩ : ∃ d, ds[i]? = some d := ⟨ds[i], by simp [hlt]⟩
    have hdrop : ds.drop i = d :: ds.drop (i + 1) := by
      rw [List.drop_eq_getElem_cons hlt]
      congr 1
      simpa [hlt] using hd
    rw [hdrop] at hr
    obtain ⟨go, yl⟩ := w.go Gi H' gi.gg gi.gh i d hd
    refine .inr ⟨go, Inv (i + 1), fun H'' hn => ⟨ds.length - (i + 1), by omega, rfl, hlt, hn⟩, fun x H2 hyl => ?_⟩
    obtain ⟨G2, g2, r2⟩ := yl x H2 hyl
    unfold lcL at hr
    cases es : lcStep t ft fe (wipeG Γ own) d with
    | bad => simp [es] at hr
    | ex x => simp [es] at hr
    | ok y =>
      simp only [es, Re.bind_ok] at hr
      cases er : lcL t ft fe (wipeG Γ own) (ds.drop (i + 1)) with
      | bad => simp [er] at hr
      | ex x => simp [er] at hr
      | ok rs' =>
        simp only [er, Re.bind_ok, Re.ok.injEq] at hr
        obtain ⟨Γ1, et, hcase⟩ := lcStep_ok es
        have heW : EnvOk c G1 H1 (wipe σ own) (wipeG Γ own) := (he.mono g1).wipe own
        have he2 := (heW.mono gi).mono g2
        have D2 : G2 D = none := g2.keepNone gD (live_of aD)
        have a2 := g2.hh _ _ aD (fun _ z => by cases z)
        have ra2 := ra.mono g2.gg
        refine Tg.ok he2 r2 et fun σ2 he3 hj => ⟨?_, G2, Γ1, he3.calm, ?_⟩
        · have l2 : σ2.length = (wipe σ own).length := by rw [he3.len, Tg.set_length et, he2.len]
          have e1 : wipe σ2 own = wipe (wipe σ own) own := wipe_in l2 own fun j hn => hj j fun z => hn (hix j z)
          have e2 : wipe (wipe σ own) own = wipe σ own := wipe_in (by rw [wipe_length]) own fun j hn => wipe_out hn
          rw [e1, e2]
        · rcases hcase with ⟨hf, rfl⟩ | ⟨r, z, hf, hfe, hsh, rfl⟩
          · rw [hf]
            intro G3 H3 g3
            rw [if_neg Bool.false_ne_true]
            refine ⟨G3, acc, dn, rs', gi.trans (g2.trans g3), g3.keepNone D2 (live_of a2), g3.hh _ _ a2 (fun _ z => by cases z), ra2.mono g3.gg, er, ?_⟩
            rw [← hy, ← hr]; rfl
          · rw [hf]
            intro G3 H3 g3
            rw [if_pos rfl]
            refine ⟨G3, Γ1, he3.calm.mono g3, ?_⟩
            rw [hfe]
            intro v G4 H4 g4 v4 fr4
            obtain ⟨G5, g5, s5, rp⟩ := RV.share (c := c) g4 v4 fr4 hsh
            have a3 := g3.hh _ _ a2 (fun _ z => by cases z)
            have a5 := g5.hh _ _ a3 (fun _ z => by cases z)
            have D5 : G5 D = none := g5.keepNone (g3.keepNone D2 (live_of a2)) (live_of a3)
            have g0 := gi.trans (g2.trans (g3.trans g5))
            refine ⟨acc, a5, ?_, G5, acc ++ [v], dn ++ [z], rs', g0.put (.of hD) D5 a5 ⟨fun _ z => (by cases z), fun _ z => (by cases z)⟩, D5, upd_same, ((ra2.mono g3.gg).mono g5.gg).append (.cons rp .nil), er, ?_⟩
            · rw [ra.length, sizeLine_eq]
              have := congrArg List.length hy
              rw [← hr] at this
              simp at this
              omega
            · rw [← hy, ← hr]; simp
  · have ei : i = ds.length := by omega
    subst ei
    rw [List.drop_length] at hr
    cases hr
    rw [List.append_nil] at hy
    subst hy
    exact .inl ⟨w.stop H' (gi.gg.trans gi.gh) _ (Nat.le_refl _), q D Gi H' (g1.trans gi) hD0 gD (.l aD ra)⟩
theorem takesN0 {X : Cx} : L2N.Takes X (fun _ _ _ _ => False) := fun _ _ x => by
  obtain ⟨_, _, _, _, _, _, _, _, _, _, _, _, _, _, _, _, z⟩ := x
  exact z.elim
theorem Cy.blk (cy : Cy X c) (s : Shared) (H : Hp) (scope : Scope) (ce : Env) (fp : List Addr) : Cy (X.blk s H scope ce fp) c.calm :=
  ⟨cy.K, cy.mg, takesN0, cy.calm, cy.nd, cy.un⟩
theorem re_lc (cy : Cy X c) {elt iter : Expr} {ifs : List Expr} {scope : Scope} {own : List (Str × Nat)} {t : Tg} {fe : FE} (hi : PI X tg iter (tI c fi)) (ok : BlkOk X.N X.env.scope scope own) (hix : ∀ j ∈ t.ix, j ∈ own.map (·.2))
    (hg : ∀ (s : Shared) (H : Hp) (C : Addr) (cl : List (Str × Addr)) (fp : List Addr), Cy (X.blk s H scope (compEnvC scope cl C X.env) fp) c.calm → PG (X.blk s H scope (compEnvC scope cl C X.env) fp) tg (t.tgt c.K))
    (ht : ∀ (s : Shared) (H : Hp) (C : Addr) (cl : List (Str × Addr)) (fp : List Addr), Cy (X.blk s H scope (compEnvC scope cl C X.env) fp) c.calm → PTs (X.blk s H scope (compEnvC scope cl C X.env) fp) ifs (tT c.calm ft))
    (hel : ∀ (s : Shared) (H : Hp) (C : Addr) (cl : List (Str × Addr)) (fp : List Addr), Cy (X.blk s H scope (compEnvC scope cl C X.env) fp) c.calm → PE (X.blk s H scope (compEnvC scope cl C X.env) fp) elt (tE c.calm fe)) (hs : ∀ x, foldedSetIterable iter X.env x = pure x := by intro _; rfl) :
    PE X (.ListComp elt [⟨tg, iter, ifs, 0⟩] scope pos) (tE c (eLc fi t ft fe (own.map (·.2)))) := by
  refine PE.weak (pe_lc cy.calm cy.nd hi ok (fun s H C cl fp => hg s H C cl fp (cy.blk ..)) (fun s H C cl fp => ht s H C cl fp (cy.blk ..)) (fun s H C cl fp => hel s H C cl fp (cy.blk ..)) hs) ?_
  rintro σ H Q ⟨G, Γ, he, q⟩
  unfold eLc at q
  refine ⟨G, Γ, he, ?_⟩
  cases ef : fi Γ with
  | bad => rw [ef] at q; exact q
  | ex x => rw [ef] at q; exact q
  | ok ds =>
    rw [ef] at q
    simp only [Re.bind_ok] at q
    intro J G1 H1 g1 w
    cases el : lcL t ft fe (wipeG Γ (own.map (·.2))) ds with
    | bad => rw [el] at q; exact q.elim
    | ex x => rw [el] at q; exact q.elim
    | ok ys =>
      rw [el] at q
      unfold lcRes at q
      dsimp only at q
      split at q
      · rename_i hz
        exact lc_main hix he el hz (fun p G' H' g hp gp o => q (.ref p) G' H' g ⟨p, rfl, Kept.non he.bh hp, gp, o⟩ ⟨p, rfl, hp⟩) g1 w
      · exact q.elim
theorem rs_setLc (cy : Cy X c) {i : Nat} {y : Str} {py : Pos} {elt iter : Expr} {ifs : List Expr} {scope : Scope} {own : List (Str × Nat)} {spos : Pos} {t : Tg} {fe : FE} (hy : X.N[i]? = some y) (hyl : X.env.scope.names.lookup y = some .local)
    (hsw : swapsWith (.ListComp elt [⟨tg, iter, ifs, 0⟩] scope pos) (some (.Name y py)) spos.line X.env = pure true) (hi : PI X tg iter (tI c fi)) (ok : BlkOk X.N X.env.scope scope own) (hix : ∀ j ∈ t.ix, j ∈ own.map (·.2))
    (hg : ∀ (s : Shared) (H : Hp) (C : Addr) (cl : List (Str × Addr)) (fp : List Addr), Cy (X.blk s H scope (compEnvC scope cl C X.env) fp) c.calm → PG (X.blk s H scope (compEnvC scope cl C X.env) fp) tg (t.tgt c.K))
    (ht : ∀ (s : Shared) (H : Hp) (C : Addr) (cl : List (Str × Addr)) (fp : List Addr), Cy (X.blk s H scope (compEnvC scope cl C X.env) fp) c.calm → PTs (X.blk s H scope (compEnvC scope cl C X.env) fp) ifs (tT c.calm ft))
    (hel : ∀ (s : Shared) (H : Hp) (C : Addr) (cl : List (Str × Addr)) (fp : List Addr), Cy (X.blk s H scope (compEnvC scope cl C X.env) fp) c.calm → PE (X.blk s H scope (compEnvC scope cl C X.env) fp) elt (tE c.calm fe)) (hs : ∀ x, foldedSetIterable iter X.env x = pure x := by intro _; rfl) :
    PS X (.Assign [.Name y py] (.ListComp elt [⟨tg, iter, ifs, 0⟩] scope pos) spos) (tS c (sSet i (eLc fi t ft fe (own.map (·.2))))) := by
  refine PS.weak (ps_setLc cy.calm cy.nd hy hyl hsw hi ok (fun s H C cl fp => hg s H C cl fp (cy.blk ..)) (fun s H C cl fp => ht s H C cl fp (cy.blk ..)) (fun s H C cl fp => hel s H C cl fp (cy.blk ..)) hs) ?_
  rintro D σ H ⟨G, Γ, he, q⟩
  unfold sSet eLc at q
  refine ⟨G, Γ, he, ?_⟩
  cases ef : fi Γ with
  | bad => rw [ef] at q; exact q
  | ex x => rw [ef] at q; exact fun G' H' g => q σ G' H' (he.mono g) g.gg
  | ok ds =>
    rw [ef] at q
    simp only [Re.bind_ok] at q
    intro J G1 H1 g1 w
    cases el : lcL t ft fe (wipeG Γ (own.map (·.2))) ds with
    | bad => rw [el] at q; exact q.elim
    | ex x => rw [el] at q; exact q.elim
    | ok ys =>
      rw [el] at q
      unfold lcRes at q
      dsimp only at q
      split at q
      · rename_i hz
        exact lc_main (Q := fun x H1 => gName i x σ H1 D.nx) hix he el hz (fun p G' H' g hp gp o => set_env (r := .fr (.l ys)) he g ⟨p, rfl, Kept.non he.bh hp, gp, o⟩ ⟨p, rfl, hp⟩ q) g1 w
      · exact q.elim

def sRaise (x : Str) : FS := fun Γ => .ex ⟨x, none⟩ Γ
structure XOk (K : PySem.W.Frag) (mg : Str → Option Value) (x : Str) : Prop where
  ex : ∃ C : Addr, mg x = some (.ref C) ∧ PySem.W.excIn K C [.type "ValueError", .type "Exception", .type "BaseException", .type "object"] "ValueError.__new__" = true ∧ PySem.W.keepIn K (.ref C) = true ∧
    PySem.W.subIn K (.ref C) (.type "BaseException") = some true ∧ PySem.W.typeIn K (.ref C) = some (.type "type")
theorem rs_raise (cy : Cy X c) {x m : Str} {j : Nat} {p p2 pos2 : Pos} (T : XOk X.K X.mg x) (hg : Gl X x) (hdb : (x == ("__debug__" : Str)) = false := by decide) :
    PS X (.Raise (some (.Call (.Name x p) [.Constant (.str m) j p2] [] pos)) none pos2) (tS c (sRaise x)) := by
  obtain ⟨C, h1, h2, h3, h4, h5⟩ := T.ex
  refine PS.weak (L2N.ps_raise cy.calm cy.tk (L2N.pmk_own PySem.F.excBase_ValueError h2 h1 h3 (raises_own h4 h5) hg hdb)) ?_
  rintro D σ H ⟨G, Γ, he, q⟩
  exact q σ G H he (Same.refl _) C none (by rw [← cy.mg]; exact h1) rfl
def runF (n m : Nat) (body : FS) (ds : List D) : Re Rv := if ds.length = n then (match body (ds.map (fun d => some (.sh d)) ++ List.replicate (m - n) none) with
  | .nx _ => .ok (.sh .n)
  | .rt (.sh d) => .ok (.sh d)
  | .rt (.fr d) => .ok (.fr d)
  | .ex e _ => .ex e
  | _ => .bad) else .bad
end
section
variable {P : Program} {w : World} {K : PySem.W.Frag} {mg : Str → Option Value} {base : Heap}
abbrev dLc (K : PySem.W.Frag) (mg : Str → Option Value) (H G : Hp) (E : XK) : LC := ⟨K, mg, H, G, fun cls d _ H' => E cls d H'⟩
theorem start_env {G H : Hp} {vs : List V} {ds : List D} {N : List Str} {E : XK} (ok : Ok0 G H) (r : Reps K G vs ds) : EnvOk (dLc K mg H G E) G H (start N vs) (ds.map (fun d => some (.sh d)) ++ List.replicate (N.length - ds.length) none) := by
  have hl := r.length
  refine ⟨LamX.ExtN.refl _, Same.refl _, ok.gh, fun a o e _ => e, ok.gt, ok.tb, by simp [L2.start, hl], fun i rv hi => ?_, fun i j x y p hi hj si sj => ?_⟩
  · by_cases hlt : i < ds.length
    · rw [List.getElem?_append_left (by simpa using hlt)] at hi
      rw [List.getElem?_map] at hi
      cases e : ds[i]? with
      | none => rw [e] at hi; cases hi
      | some d =>
        rw [e] at hi
        cases hi
        obtain ⟨v, hv, rv⟩ := r.get' e
        refine ⟨v, ?_, rv, fun _ z => by cases z⟩
        unfold L2.start
        rw [List.getElem?_append_left (by simpa [hl] using hlt), List.getElem?_map, hv]
        rfl
    · rw [List.getElem?_append_right (by simpa using hlt)] at hi
      rw [List.getElem?_replicate] at hi
      split at hi <;> cases hi
  · have no : ∀ (i : Nat) (x : D), (ds.map (fun d => some (Rv.sh d)) ++ List.replicate (N.length - ds.length) none)[i]? = some (some (.fr x)) → False := by
      intro i x hi
      by_cases hlt : i < ds.length
      · rw [List.getElem?_append_left (by simpa using hlt)] at hi
        rw [List.getElem?_map] at hi
        cases e : ds[i]? with
        | none => rw [e] at hi; cases hi
        | some d => rw [e] at hi; cases hi
      · rw [List.getElem?_append_right (by simpa using hlt)] at hi
        rw [List.getElem?_replicate] at hi
        split at hi <;> cases hi
    exact (no i x hi).elim
theorem fun_okN {x qual : Str} {st : Stmt} {f : Addr} {fd : FuncData} {N ps : List Str} {k : Nat} {sp : Sp} (F : Fun K x qual st f fd) (S : FnScope N ps (defScope st)) (hl : ∀ vs H Q E, sp vs H Q E → vs.length = ps.length)
    (hb : ∀ (cd : Value) (A : Around) (outer : List Env) (s : Shared) (H : Hp) (vs : List V) (Q : VK) (E : XK), Room k (A.deeper (envOfC qual (defScope st) s.heap.objs.size f cd)) → sp vs H Q E →
      ∃ t, PSs (cxOf (L2N.CX P w) P w K mg base N qual (defScope st) f cd A outer s H E) (defBody st) t ∧ t { nx := fun _ H' => Q .non H', rt := Q } (start N vs) H) : FnOk P w K mg base (L2N.CX P w) (k + 1) f fd ps sp := by
  obtain ⟨_, _, _, _, _, _, cd, _, _, rfl, h1, h2⟩ := F.ex
  exact fn_of h1 h2 S hl fun A o s H vs Q E r q => hb cd A o s H vs Q E r q
theorem def_fn {x qual : Str} {st : Stmt} {f : Addr} {fd : FuncData} {N ps : List Str} {k n m : Nat} {body : FS} (F : Fun K x qual st f fd) (S : FnScope N ps (defScope st))
    (hn : ps.length = n) (hN : N.length = m)
    (h : ∀ (cdv : Value) (A : Around) (outer : List Env) (s : Shared) (H G : Hp) (E : XK), Room k (A.deeper (envOfC qual (defScope st) s.heap.objs.size f cdv)) →
      Cy (cxOf (L2N.CX P w) P w K mg base N qual (defScope st) f cdv A outer s H E) (dLc K mg H G E) →
      PassesOwn (model P w) (A.deeper (envOfC qual (defScope st) s.heap.objs.size f cdv)) (envOfC qual (defScope st) s.heap.objs.size f cdv) (cxOf (L2N.CX P w) P w K mg base N qual (defScope st) f cdv A outer s H E).xe →
      PSs (cxOf (L2N.CX P w) P w K mg base N qual (defScope st) f cdv A outer s H E) (defBody st) (tS (dLc K mg H G E) body)) : FnOk P w K mg base (L2N.CX P w) (k + 1) f fd ps (spF K mg n (runF n m body)) := by
  refine fun_okN F S (fun vs H Q E hs => ?_) (fun cdv A outer s H vs Q E hr hs => ?_)
  · obtain ⟨G, ds, hl, gh, r, _⟩ := hs
    rw [r.length, hl, hn]
  · obtain ⟨G, ds, hl, gh, r, q⟩ := hs
    have cy : Cy (cxOf (L2N.CX P w) P w K mg base N qual (defScope st) f cdv A outer s H E) (dLc K mg H G E) := ⟨rfl, rfl, L2N.takes_of rfl rfl rfl rfl, rfl, S.nd, hr.units⟩
    refine ⟨_, h cdv A outer s H G E hr cy (passes_of (X := cxOf (L2N.CX P w) P w K mg base N qual (defScope st) f cdv A outer s H E) rfl), G, _, start_env gh r, ?_⟩
    have gr : ∀ {G' H' : Hp}, EndOk (dLc K mg H G E) G' H' → Gr G H G' H' := fun e => ⟨e.bh, e.g0, e.gh, e.gf, fun _ => e.gt, fun _ => e.tb⟩
    unfold runF at q
    rw [if_pos hl] at q
    rw [hN, hl]
    cases eb : body (ds.map (fun d => some (.sh d)) ++ List.replicate (m - n) none) with
    | nx Γ' => rw [eb] at q; exact fun σ' G' H' he s => q .non G' H' (gr he.end) .n
    | rt rv =>
      rw [eb] at q
      cases rv with
      | sh d => exact fun v G' H' he s hv _ => q v G' H' (gr he) hv
      | fr d => exact fun v G' H' he s ⟨p, e, bp, gp, o⟩ _ => by subst e; exact q p G' H' (gr he) bp gp o
      | bo d => exact fun v G' H' he s hv hn => absurd rfl (hn d)
    | ex e Γ' => rw [eb] at q; exact fun σ' G' H' he s C d hC hd => q G' H' (gr he.end) C d hC hd
    | bk Γ' => rw [eb] at q; exact q.elim
    | ct Γ' => rw [eb] at q; exact q.elim
    | bad => rw [eb] at q; exact q.elim
theorem fn_bad {f : Addr} {fd : FuncData} {ps : List Str} {n : Nat} {j : Nat} : FnOk P w K mg base (L2N.CX P w) j f fd ps (spF K mg n fun _ => .bad) :=
  ⟨fun vs H Q E ⟨_, _, _, _, _, h⟩ => h.elim, fun A outer s H args us vs Q E _ _ _ _ ⟨_, _, _, _, _, h⟩ => h.elim⟩
end
end Ly
end

section
set_option maxRecDepth 100000
namespace Ly
open PySem PySem.Spec L2
open PyProof.Rows hiding St
variable [Tb]

section
variable {X : Cx} {c : LC} {a b e : Expr} {es : List Expr} {f g h : FE} {ft : FT} {fi : FI} {fa : FA} {u v : FS} {pos : Pos} {body : List Stmt}
def D.ty? : D → Option String
  | .n => some "NoneType" | .b _ => some "bool" | .i _ => some "int" | .s _ => some "str"
  | .l _ => some "list" | .z _ => some "list" | .t _ => some "tuple" | .zt _ => some "tuple" | _ => none
theorem Rep.tyx {G : Hp} {v : V} {d : D} {T : String} (h : Rep c.K G v d) (e : d.ty? = some T) : TyX c.K G v (.type T) := by
  cases h with
  | n => cases e; exact .base .non
  | b x => cases e; exact .base (.bl x)
  | i x => cases e; exact .base (.int x)
  | s x => cases e; exact .base (.str x)
  | l h1 h2 => cases e; exact .base (.lst h1)
  | z h1 h2 =>
    cases e
    rcases h1 with (h1 | ⟨o, h1⟩) | ⟨o, its, n, h1, h3, _⟩
    · exact .base (.lst h1)
    · exact .base (.frz h1)
    · exact .kList h1 h3
  | t h1 h2 => cases e; exact .base (.tup h1)
  | zt h1 h2 =>
    cases e
    rcases h1 with (h1 | ⟨o, h1⟩) | ⟨o, its, n, h1, h3, _⟩
    · exact .base (.tup h1)
    · exact .fTuple h1
    · exact .kTuple h1 h3
  | o _ => cases e
  | dk _ _ _ => cases e
  | dt _ _ _ => cases e
theorem TyX.up {K : PySem.W.Frag} {G H : Hp} {v : V} {T : String} (gh : Same G H) (h : TyX K G v (.type T)) : TyX K H v (.type T) := by
  cases h with
  | base b =>
    cases b with
    | non => exact .base .non
    | bl x => exact .base (.bl x)
    | int x => exact .base (.int x)
    | str x => exact .base (.str x)
    | flt x => exact .base (.flt x)
    | lst e => exact .base (.lst (gh _ _ e))
    | frz e => exact .base (.frz (gh _ _ e))
    | tup e => exact .base (.tup (gh _ _ e))
    | dK e => exact .base (.dK (gh _ _ e))
    | dT e => exact .base (.dT (gh _ _ e))
  | byt b => exact .byt b
  | set e => exact .set (gh _ _ e)
  | kList e k => exact .kList e k
  | kTuple e k => exact .kTuple e k
  | kDict e k => exact .kDict e k
  | fTuple e => exact .fTuple (gh _ _ e)
  | fDict e => exact .fDict (gh _ _ e)
theorem RV.tyx {G H : Hp} {v : V} {r : Rv} {T : String} (gh : Same G H) (h : RV c G H v r) (e : r.d.ty? = some T) : TyX c.K H v (.type T) := by
  cases r with
  | sh d => exact TyX.up gh (Rep.tyx h e)
  | fr d =>
    obtain ⟨p, rfl, _, _, o⟩ := h
    cases o with
    | l h1 h2 => cases e; exact .base (.lst h1)
    | dk h1 _ _ => cases e
    | dt h1 _ _ => cases e
  | bo d =>
    obtain ⟨p, rfl, _, _, o⟩ := h
    cases o with
    | l h1 h2 => cases e; exact .base (.lst h1)
    | dk h1 _ _ => cases e
    | dt h1 _ _ => cases e
def isiB (T : String) : String → Option Bool := fun t => kitB t T
def kIsi (T : String) : Rv → Re Rv := fun r => match r.d.ty? with
  | some t => (match isiB T t with | some k => okb k | none => .bad)
  | none => .bad
theorem re_isi (cy : Cy X c) {T : String} {x : Str} {p p2 : Pos} (hg : Gl X "isinstance") (hm : X.mg "isinstance" = none) (hgT : Gl X x) (hmT : X.mg x = none) (hvT : bootBuiltins x = some (.type T)) (ha : PE X a (tE c f))
    (hn : x ≠ "__name__" := by decide) (hd : (x == ("__debug__" : Str)) = false := by decide)
    (hs : starEach [a, .Name x p2] X.env = (false, eval a X.env) :: starEach [.Name x p2] X.env := by rfl) (hs2 : starEach [.Name x p2] X.env = [(false, eval (.Name x p2) X.env)] := by rfl) (hpl : (backTo pos (starEach [.Name x p2] X.env)).any (·.1) = false := by rfl) :
    PE X (.Call (.Name "isinstance" p) [a, .Name x p2] [] pos) (tE c (e1 (kIsi T) f)) := by
  refine PE.weak (pe_callB call_isi hg hm (by decide +kernel) (pa_cons ha (pa_cons (pe_bltn (v := .ty T) hgT hmT hvT rfl hn hd) pa_nil hs2) hs) (by decide) (by decide) hs hpl) ?_
  rintro σ H Q ⟨G, Γ, he, q⟩
  refine eE he q fun r v G1 H1 eq1 g1 v1 fr he1 q1 => ?_
  unfold kIsi at q1
  split at q1
  · rename_i t et
    split at q1
    · rename_i k ek
      rw [cy.K]
      exact ⟨v, .ty T, .type t, .type T, k, rfl, .ty T, v1.tyx he1.gh et, kit_ty ek, post_sh he1.gh q1 (.b _)⟩
    · exact q1.elim
  · exact q1.elim
def kIsi2 (T U : String) : Rv → Re Rv := fun r => match r.d.ty? with
  | some t => (match isiB T t, isiB U t with | some k, some j => okb (k || j) | _, _ => .bad)
  | none => .bad
theorem re_isi2 (cy : Cy X c) {T U : String} {x y : Str} {kk : Nat} {p p2 p3 pt : Pos} (hg : Gl X "isinstance") (hm : X.mg "isinstance" = none) (hgT : Gl X x) (hmT : X.mg x = none) (hvT : bootBuiltins x = some (.type T)) (hgU : Gl X y) (hmU : X.mg y = none) (hvU : bootBuiltins y = some (.type U)) (ha : PE X a (tE c f))
    (hn : x ≠ "__name__" := by decide) (hd : (x == ("__debug__" : Str)) = false := by decide) (hn' : y ≠ "__name__" := by decide) (hd' : (y == ("__debug__" : Str)) = false := by decide)
    (hs : starEach [a, .Tuple [.Name x p2, .Name y p3] kk pt] X.env = (false, eval a X.env) :: starEach [.Tuple [.Name x p2, .Name y p3] kk pt] X.env := by rfl)
    (hs2 : starEach [.Tuple [.Name x p2, .Name y p3] kk pt] X.env = [(false, eval (.Tuple [.Name x p2, .Name y p3] kk pt) X.env)] := by rfl)
    (hs3 : starEach [.Name x p2, .Name y p3] X.env = (false, eval (.Name x p2) X.env) :: starEach [.Name y p3] X.env := by rfl) (hs4 : starEach [.Name y p3] X.env = [(false, eval (.Name y p3) X.env)] := by rfl)
    (hpl : (backTo pos (starEach [.Tuple [.Name x p2, .Name y p3] kk pt] X.env)).any (·.1) = false := by rfl) :
    PE X (.Call (.Name "isinstance" p) [a, .Tuple [.Name x p2, .Name y p3] kk pt] [] pos) (tE c (e1 (kIsi2 T U) f)) := by
  refine PE.weak (pe_callB call_isiT hg hm (by decide +kernel) (pa_cons ha (pa_cons (pe_tup (pa_cons (pe_bltn (v := .ty T) hgT hmT hvT rfl hn hd) (pa_cons (pe_bltn (v := .ty U) hgU hmU hvU rfl hn' hd') pa_nil hs4) hs3)) pa_nil hs2) hs) (by decide) (by decide) hs hpl) ?_
  rintro σ H Q ⟨G, Γ, he, q⟩
  refine eE he q fun r v G1 H1 eq1 g1 v1 fr he1 q1 => ?_
  unfold kIsi2 at q1
  split at q1
  · rename_i t et
    split at q1
    · rename_i k j ek ej
      rw [cy.K]
      refine ⟨by show 2 ≤ sizeLine; decide, fun tp hp => ?_⟩
      have g2 := Gr.new (o := .tup [.ty T, .ty U]) he1.gh hp
      have v2 := v1.mono g2
      refine ⟨v, tp, [.ty T, .ty U], .type t, [.type T, .type U], k || j, rfl, upd_same, .cons (.ty T) (.cons (.ty U) .nil), v2.tyx g2.gh et, ?_, ?_⟩
      · refine kitAny_cons (kit_ty ek) (fun e => ?_) (fun e => by rw [e]; rfl)
        refine kitAny_cons (kit_ty ej) (fun e' => ?_) (fun e' => by rw [e']; exact Bool.or_true _)
        rw [e, e']; exact kitAny_nil
      · exact q1 _ _ _ g2 (Rep.b _) True.intro
    · exact q1.elim
  · exact q1.elim

def D.bools : List D → Option (List Bool)
  | [] => some []
  | .b x :: r => (D.bools r).map (x :: ·)
  | _ :: _ => none
def D.ints : List D → Option (List Int)
  | [] => some []
  | .i x :: r => (D.ints r).map (x :: ·)
  | _ :: _ => none
theorem D.ints_eq : ∀ {ds : List D} {zs : List Int}, D.ints ds = some zs → ds = zs.map D.i
  | [], _, h => by cases h; rfl
  | .i x :: r, zs, h => by
    unfold D.ints at h
    cases e : D.ints r with
    | none => rw [e] at h; cases h
    | some ws => rw [e] at h; cases h; rw [List.map_cons, ← D.ints_eq e]
  | .n :: _, _, h => by cases h
  | .b _ :: _, _, h => by cases h
  | .s _ :: _, _, h => by cases h
  | .l _ :: _, _, h => by cases h
  | .t _ :: _, _, h => by cases h
  | .z _ :: _, _, h => by cases h
  | .zt _ :: _, _, h => by cases h
  | .o _ :: _, _, h => by cases h
  | .dk _ _ :: _, _, h => by cases h
  | .dt _ _ :: _, _, h => by cases h
theorem D.ints_map (zs : List Int) : D.ints (zs.map D.i) = some zs := by
  induction zs with
  | nil => rfl
  | cons z zs ih => rw [List.map_cons, D.ints, ih]; rfl
theorem D.bools_eq : ∀ {ds : List D} {zs : List Bool}, D.bools ds = some zs → ds = zs.map D.b
  | [], _, h => by cases h; rfl
  | .b x :: r, zs, h => by
    unfold D.bools at h
    cases e : D.bools r with
    | none => rw [e] at h; cases h
    | some ws => rw [e] at h; cases h; rw [List.map_cons, ← D.bools_eq e]
  | .n :: _, _, h => by cases h
  | .i _ :: _, _, h => by cases h
  | .s _ :: _, _, h => by cases h
  | .l _ :: _, _, h => by cases h
  | .t _ :: _, _, h => by cases h
  | .z _ :: _, _, h => by cases h
  | .zt _ :: _, _, h => by cases h
  | .o _ :: _, _, h => by cases h
  | .dk _ _ :: _, _, h => by cases h
  | .dt _ _ :: _, _, h => by cases h
theorem D.bools_map (zs : List Bool) : D.bools (zs.map D.b) = some zs := by
  induction zs with
  | nil => rfl
  | cons z zs ih => rw [List.map_cons, D.bools, ih]; rfl
theorem Reps.bls {K : PySem.W.Frag} {G : Hp} : ∀ {vs : List V} {zs : List Bool}, Reps K G vs (zs.map D.b) → vs = zs.map V.bl
  | _, [], .nil => rfl
  | _, z :: zs, .cons h r => by rw [h.bl_inv, List.map_cons, Reps.bls r]
def kAll : Rv → Re Rv := fun r => match r.d.seq? with
  | some ds => (match D.bools ds with | some bs => okb (bs.all id) | none => .bad) | none => .bad
def kAny : Rv → Re Rv := fun r => match r.d.seq? with
  | some ds => (match D.bools ds with | some bs => okb (bs.any id) | none => .bad) | none => .bad
theorem re_all (cy : Cy X c) {p : Pos} (hg : Gl X "all") (hm : X.mg "all" = none) (ha : PE X a (tE c f)) (hs : starEach [a] X.env = [(false, eval a X.env)] := by rfl) : PE X (.Call (.Name "all" p) [a] [] pos) (tE c (e1 kAll f)) := by
  refine re_b1 (r := rAll c.K) (by rw [← cy.K]; exact cr_all cy.calm) ?_ hg hm (by decide +kernel) ha (by decide) (by decide) hs
  intro σ G H x rx Q gh bh hx q
  unfold kAll at q
  split at q
  · rename_i ds e
    split at q
    · rename_i bs eb
      obtain ⟨p, xs, rfl, e2, e3⟩ := hx.sql gh e
      rw [D.bools_eq eb] at e3
      rw [e3.bls] at e2
      exact ⟨p, bs, rfl, e2, post_sh gh q (.b _)⟩
    · exact q.elim
  · exact q.elim
theorem re_any (cy : Cy X c) {p : Pos} (hg : Gl X "any") (hm : X.mg "any" = none) (ha : PE X a (tE c f)) (hs : starEach [a] X.env = [(false, eval a X.env)] := by rfl) : PE X (.Call (.Name "any" p) [a] [] pos) (tE c (e1 kAny f)) := by
  refine re_b1 (r := rAny c.K) (by rw [← cy.K]; exact cr_any cy.calm) ?_ hg hm (by decide +kernel) ha (by decide) (by decide) hs
  intro σ G H x rx Q gh bh hx q
  unfold kAny at q
  split at q
  · rename_i ds e
    split at q
    · rename_i bs eb
      obtain ⟨p, xs, rfl, e2, e3⟩ := hx.sql gh e
      rw [D.bools_eq eb] at e3
      rw [e3.bls] at e2
      exact ⟨p, bs, rfl, e2, post_sh gh q (.b _)⟩
    · exact q.elim
  · exact q.elim
def kSum : Rv → Re Rv := fun r => match r.d.seq? with
  | some ds => (match D.ints ds with | some zs => oki zs.sum | none => .bad) | none => .bad
theorem re_sum (cy : Cy X c) {p : Pos} (hg : Gl X "sum") (hm : X.mg "sum" = none) (ha : PE X a (tE c f)) (hs : starEach [a] X.env = [(false, eval a X.env)] := by rfl) : PE X (.Call (.Name "sum" p) [a] [] pos) (tE c (e1 kSum f)) := by
  refine re_b1 (r := rSum c.K) (by rw [← cy.K]; exact cr_sum cy.calm) ?_ hg hm (by decide +kernel) ha (by decide) (by decide) hs
  intro σ G H x rx Q gh bh hx q
  unfold kSum at q
  split at q
  · rename_i ds e
    split at q
    · rename_i bs eb
      obtain ⟨p, xs, rfl, e2, e3⟩ := hx.sql gh e
      rw [D.ints_eq eb] at e3
      rw [e3.ints] at e2
      exact ⟨p, bs, rfl, e2, post_sh gh q (.i _)⟩
    · exact q.elim
  · exact q.elim
def maxI : List Int → Int
  | [] => 0 | z :: zs => zs.foldl max z
def minI : List Int → Int
  | [] => 0 | z :: zs => zs.foldl min z
theorem foldl_max_le (zs : List Int) : ∀ z : Int, z ≤ zs.foldl max z ∧ (∀ y ∈ zs, y ≤ zs.foldl max z) ∧ (zs.foldl max z = z ∨ zs.foldl max z ∈ zs) := by
  induction zs with
  | nil => intro z; exact ⟨Int.le_refl _, by simp, .inl rfl⟩
  | cons y ys ih =>
    intro z
    obtain ⟨h1, h2, h3⟩ := ih (max z y)
    refine ⟨by rw [List.foldl_cons]; omega, fun w hw => ?_, ?_⟩
    · rw [List.foldl_cons]
      rcases List.mem_cons.mp hw with rfl | hw
      · omega
      · exact h2 w hw
    · rw [List.foldl_cons]
      rcases h3 with h3 | h3
      · rcases Int.le_total z y with h | h
        · right; rw [h3, Int.max_eq_right h]; exact List.mem_cons_self
        · left; rw [h3, Int.max_eq_left h]
      · right; exact List.mem_cons_of_mem _ h3
theorem foldl_min_le (zs : List Int) : ∀ z : Int, zs.foldl min z ≤ z ∧ (∀ y ∈ zs, zs.foldl min z ≤ y) ∧ (zs.foldl min z = z ∨ zs.foldl min z ∈ zs) := by
  induction zs with
  | nil => intro z; exact ⟨Int.le_refl _, by simp, .inl rfl⟩
  | cons y ys ih =>
    intro z
    obtain ⟨h1, h2, h3⟩ := ih (min z y)
    refine ⟨by rw [List.foldl_cons]; omega, fun w hw => ?_, ?_⟩
    · rw [List.foldl_cons]
      rcases List.mem_cons.mp hw with rfl | hw
      · omega
      · exact h2 w hw
    · rw [List.foldl_cons]
      rcases h3 with h3 | h3
      · rcases Int.le_total z y with h | h
        · left; rw [h3, Int.min_eq_left h]
        · right; rw [h3, Int.min_eq_right h]; exact List.mem_cons_self
      · right; exact List.mem_cons_of_mem _ h3
theorem maxI_is {zs : List Int} {m : Int} (h : m ∈ zs) (hm : ∀ y ∈ zs, y ≤ m) : m = maxI zs := by
  cases zs with
  | nil => cases h
  | cons z zs =>
    obtain ⟨h1, h2, h3⟩ := foldl_max_le zs z
    have a : m ≤ maxI (z :: zs) := by
      rcases List.mem_cons.mp h with rfl | h
      · exact h1
      · exact h2 m h
    have b : maxI (z :: zs) ≤ m := by
      show zs.foldl max z ≤ m
      rcases h3 with h3 | h3
      · rw [h3]; exact hm z List.mem_cons_self
      · exact hm _ (List.mem_cons_of_mem _ h3)
    omega
theorem minI_is {zs : List Int} {m : Int} (h : m ∈ zs) (hm : ∀ y ∈ zs, m ≤ y) : m = minI zs := by
  cases zs with
  | nil => cases h
  | cons z zs =>
    obtain ⟨h1, h2, h3⟩ := foldl_min_le zs z
    have a : minI (z :: zs) ≤ m := by
      rcases List.mem_cons.mp h with rfl | h
      · exact h1
      · exact h2 m h
    have b : m ≤ minI (z :: zs) := by
      show m ≤ zs.foldl min z
      rcases h3 with h3 | h3
      · rw [h3]; exact hm z List.mem_cons_self
      · exact hm _ (List.mem_cons_of_mem _ h3)
    omega
def kMax : Rv → Re Rv := fun r => match r.d.seq? with
  | some ds => (match D.ints ds with | some zs => if 0 < zs.length then oki (maxI zs) else .bad | none => .bad) | none => .bad
def kMin : Rv → Re Rv := fun r => match r.d.seq? with
  | some ds => (match D.ints ds with | some zs => if 0 < zs.length then oki (minI zs) else .bad | none => .bad) | none => .bad
theorem re_max (cy : Cy X c) {p : Pos} (hg : Gl X "max") (hm : X.mg "max" = none) (ha : PE X a (tE c f)) (hs : starEach [a] X.env = [(false, eval a X.env)] := by rfl) : PE X (.Call (.Name "max" p) [a] [] pos) (tE c (e1 kMax f)) := by
  refine re_b1 (r := rMax c.K) (by rw [← cy.K]; exact cr_max cy.calm) ?_ hg hm (by decide +kernel) ha (by decide) (by decide) hs
  intro σ G H x rx Q gh bh hx q
  unfold kMax at q
  split at q
  · rename_i ds e
    split at q
    · rename_i bs eb
      split at q
      · obtain ⟨p, xs, rfl, e2, e3⟩ := hx.sql gh e
        rw [D.ints_eq eb] at e3
        rw [e3.ints] at e2
        refine ⟨p, bs, rfl, e2, by assumption, fun m hm hle => ?_⟩
        rw [maxI_is hm hle]
        exact post_sh gh q (.i _)
      · exact q.elim
    · exact q.elim
  · exact q.elim
theorem re_min (cy : Cy X c) {p : Pos} (hg : Gl X "min") (hm : X.mg "min" = none) (ha : PE X a (tE c f)) (hs : starEach [a] X.env = [(false, eval a X.env)] := by rfl) : PE X (.Call (.Name "min" p) [a] [] pos) (tE c (e1 kMin f)) := by
  refine re_b1 (r := rMin c.K) (by rw [← cy.K]; exact cr_min cy.calm) ?_ hg hm (by decide +kernel) ha (by decide) (by decide) hs
  intro σ G H x rx Q gh bh hx q
  unfold kMin at q
  split at q
  · rename_i ds e
    split at q
    · rename_i bs eb
      split at q
      · obtain ⟨p, xs, rfl, e2, e3⟩ := hx.sql gh e
        rw [D.ints_eq eb] at e3
        rw [e3.ints] at e2
        refine ⟨p, bs, rfl, e2, by assumption, fun m hm hle => ?_⟩
        rw [minI_is hm hle]
        exact post_sh gh q (.i _)
      · exact q.elim
    · exact q.elim
  · exact q.elim
def sortI (zs : List Int) : List Int := zs.mergeSort fun a b => decide (a ≤ b)
theorem sortI_is {zs ys : List Int} (hp : ys.Perm zs) (hs : ys.Pairwise (· ≤ ·)) : ys = sortI zs := by
  have h1 : (sortI zs).Perm zs := List.mergeSort_perm _ _
  have h2 : (sortI zs).Pairwise (· ≤ ·) := by
    have := List.pairwise_mergeSort (le := fun a b : Int => decide (a ≤ b)) (fun a b c h1 h2 => by simp only [decide_eq_true_eq] at *; omega) (fun a b => by simp only [Bool.or_eq_true, decide_eq_true_eq]; omega) zs
    exact this.imp fun h => by simpa using h
  exact List.Perm.eq_of_pairwise (fun a b _ _ h1 h2 => by omega) hs h2 (hp.trans h1.symm)
def kSort : Rv → Re Rv := fun r => match r.d.seq? with
  | some ds => (match D.ints ds with | some zs => .ok (.fr (.l ((sortI zs).map D.i))) | none => .bad) | none => .bad
theorem re_sort (cy : Cy X c) {p : Pos} (hg : Gl X "sorted") (hm : X.mg "sorted" = none) (ha : PE X a (tE c f)) (hs : starEach [a] X.env = [(false, eval a X.env)] := by rfl) : PE X (.Call (.Name "sorted" p) [a] [] pos) (tE c (e1 kSort f)) := by
  refine re_b1 (r := rSortedI c.K) (by rw [← cy.K]; exact cr_sortedI) ?_ hg hm (by decide +kernel) ha (by decide) (by decide) hs
  intro σ G H x rx Q gh bh hx q
  unfold kSort at q
  split at q
  · rename_i ds e
    split at q
    · rename_i bs eb
      obtain ⟨p, xs, rfl, e2, e3⟩ := hx.sql gh e
      rw [D.ints_eq eb] at e3
      rw [e3.ints] at e2
      refine ⟨p, bs, rfl, e2, fun ns' p' hp hs hn => ?_⟩
      rw [sortI_is hp hs]
      exact post_lst bh gh q (Reps.ofInts _) p' hn
    · exact q.elim
  · exact q.elim
end
end Ly
end

section
set_option maxRecDepth 100000
namespace Ly
open PySem PySem.Spec L2
open PyProof.Rows hiding St
variable [Tb]

def D.key? : D → Option Key
  | .i x => some (.inl x) | .s x => some (.inr x) | _ => none
def D.keys? : List D → Option (List Key)
  | [] => some []
  | d :: ds => match d.key?, D.keys? ds with | some k, some ks => some (k :: ks) | _, _ => none
theorem Rep.key {K : PySem.W.Frag} {G : Hp} {v : V} {d : D} {k : Key} (h : Rep K G v d) (e : d.key? = some k) : v = kV k := by
  cases h with
  | i z => cases e; rfl
  | s z => cases e; rfl
  | _ => cases e
theorem Reps.keys {K : PySem.W.Frag} {G : Hp} : ∀ {vs : List V} {ds : List D} {ks : List Key}, Reps K G vs ds → D.keys? ds = some ks → vs = ks.map kV
  | _, _, ks, .nil, e => by cases e; rfl
  | _, d :: ds, ks, .cons r rs, e => by
    unfold D.keys? at e
    split at e
    · rename_i k ks' e1 e2
      cases e
      rw [List.map_cons, ← r.key e1, ← Reps.keys rs e2]
    · cases e
def kget {κ : Type} [DecidableEq κ] : List κ → List D → κ → Option D
  | k' :: ks, d :: ds, k => if k' = k then some d else kget ks ds k
  | _, _, _ => none
def kput {κ : Type} [DecidableEq κ] (ks : List κ) (ds : List D) (k : κ) (d : D) : List κ × List D :=
  if k ∈ ks then (ks, (ks.zip ds).map fun p => if p.1 = k then d else p.2) else (ks ++ [k], ds ++ [d])
section
variable {κ : Type} [DecidableEq κ] {K : PySem.W.Frag} {G : Hp}
theorem kget_ok : ∀ {kvs : List (κ × V)} {ds : List D} {k : κ}, Reps K G (kvs.map (·.2)) ds → (valV kvs k = none ∧ kget (kvs.map (·.1)) ds k = none) ∨ ∃ v d, valV kvs k = some v ∧ kget (kvs.map (·.1)) ds k = some d ∧ Rep K G v d
  | [], _, k, .nil => .inl ⟨rfl, rfl⟩
  | p :: r, d :: ds, k, .cons h t => by
    by_cases e : p.1 = k
    · exact .inr ⟨p.2, d, valV_pos e, by rw [List.map_cons, kget, if_pos e], h⟩
    · rw [valV_neg e, List.map_cons, kget, if_neg e]
      exact kget_ok t
theorem mem_any {kvs : List (κ × V)} {k : κ} : (kvs.any fun kv => decide (kv.1 = k)) = true ↔ k ∈ kvs.map (·.1) := by
  simp [List.any_eq_true, List.mem_map]
theorem kput_ok {kvs : List (κ × V)} {ds : List D} {k : κ} {v : V} {d : D} (h : Reps K G (kvs.map (·.2)) ds) (r : Rep K G v d) :
    (kput (kvs.map (·.1)) ds k d).1 = (putK kvs k v).map (·.1) ∧ Reps K G ((putK kvs k v).map (·.2)) (kput (kvs.map (·.1)) ds k d).2 := by
  unfold kput putK
  by_cases hm : k ∈ kvs.map (·.1)
  · rw [if_pos hm, if_pos (mem_any.mpr hm)]
    refine ⟨?_, ?_⟩
    · clear hm h
      induction kvs with
      | nil => rfl
      | cons p t ih =>
        simp only [List.map_cons]
        have ih : List.map (fun x => x.1) t = List.map (fun x => x.1) (List.map (fun kv => if kv.1 = k then (kv.1, v) else kv) t) := ih
        rw [← ih]
        by_cases e : p.1 = k
        · rw [if_pos e]
        · rw [if_neg e]
    · clear hm
      induction kvs generalizing ds with
      | nil => cases h; exact .nil
      | cons p t ih =>
        cases h with
        | cons h1 h2 =>
          simp only [List.map_cons, List.zip_cons_cons]
          by_cases e : p.1 = k
          · rw [if_pos e, if_pos e]; exact .cons r (ih h2)
          · rw [if_neg e, if_neg e]; exact .cons h1 (ih h2)
  · rw [if_neg hm, if_neg (fun z => hm (mem_any.mp z))]
    exact ⟨by simp, by simpa using h.append (.cons r .nil)⟩
theorem putK_length_le (kvs : List (κ × V)) (k : κ) (v : V) : (putK kvs k v).length ≤ kvs.length + 1 := by
  unfold putK; split <;> simp
end
section
variable {X : Cx} {c : LC} {a b e o : Expr} {es : List Expr} {f g h : FE} {ft : FT} {fi : FI} {fa : FA} {u v : FS} {pos : Pos} {body : List Stmt}
theorem RV.dk {G H : Hp} {v : V} {r : Rv} {ks : List Key} {ds : List D} (gh : Same G H) (h : RV c G H v r) (e : r.d = .dk ks ds) : ∃ p kvs, v = .ref p ∧ Rd H p (.dK kvs) ∧ ks = kvs.map (·.1) ∧ Reps c.K G (kvs.map (·.2)) ds := by
  cases r with
  | sh d =>
    cases (show d = .dk ks ds from e)
    have h : Rep c.K G v (.dk ks ds) := h
    cases h with
    | dk h1 h2 h3 => exact ⟨_, _, rfl, Same.rd gh h1, h2, h3⟩
  | fr d => cases (show d = .dk ks ds from e); obtain ⟨p, e1, _, _, o⟩ := h; cases o with | dk h1 h2 h3 => exact ⟨p, _, e1, .inl h1, h2, h3⟩
  | bo d => cases (show d = .dk ks ds from e); obtain ⟨p, e1, _, _, o⟩ := h; cases o with | dk h1 h2 h3 => exact ⟨p, _, e1, .inl h1, h2, h3⟩
theorem RV.dt {G H : Hp} {v : V} {r : Rv} {ks : List (List Key)} {ds : List D} (gh : Same G H) (h : RV c G H v r) (e : r.d = .dt ks ds) : ∃ p kvs, v = .ref p ∧ Rd H p (.dT kvs) ∧ ks = kvs.map (·.1) ∧ Reps c.K G (kvs.map (·.2)) ds := by
  cases r with
  | sh d =>
    cases (show d = .dt ks ds from e)
    have h : Rep c.K G v (.dt ks ds) := h
    cases h with
    | dt h1 h2 h3 => exact ⟨_, _, rfl, Same.rd gh h1, h2, h3⟩
  | fr d => cases (show d = .dt ks ds from e); obtain ⟨p, e1, _, _, o⟩ := h; cases o with | dt h1 h2 h3 => exact ⟨p, _, e1, .inl h1, h2, h3⟩
  | bo d => cases (show d = .dt ks ds from e); obtain ⟨p, e1, _, _, o⟩ := h; cases o with | dt h1 h2 h3 => exact ⟨p, _, e1, .inl h1, h2, h3⟩
def dlook (dict key : D) : Option (Option D) := match dict with
  | .dk ks ds => (key.key?).map fun k => kget ks ds k
  | .dt ks ds => (match key with | .t kd => (D.keys? kd).map fun k => kget ks ds k | _ => none)
  | _ => none
theorem RV.key {G H : Hp} {v : V} {r : Rv} {k : Key} (h : RV c G H v r) (e : r.d.key? = some k) : v = kV k := by
  cases k with
  | inl z =>
    have ed : r.d = .i z := by cases q : r.d <;> rw [q] at e <;> cases e; rfl
    exact h.int ed
  | inr z =>
    have ed : r.d = .s z := by cases q : r.d <;> rw [q] at e <;> cases e; rfl
    exact h.str ed
theorem dlook_ok {G H : Hp} {v y : V} {r s : Rv} {o : Option D} (gh : Same G H) (h : RV c G H v r) (hy : RV c G H y s) (e : dlook r.d s.d = some o) :
    ∃ p ov, v = .ref p ∧ DGet H p y ov ∧ ((ov = none ∧ o = none) ∨ ∃ w d, ov = some w ∧ o = some d ∧ Rep c.K G w d) := by
  unfold dlook at e
  split at e
  · rename_i ks ds ed
    obtain ⟨p, kvs, rfl, h1, rfl, h3⟩ := h.dk gh ed
    cases ek : s.d.key? with
    | none => rw [ek] at e; cases e
    | some k =>
      rw [ek] at e
      cases e
      have ey := hy.key ek
      refine ⟨p, valV kvs k, rfl, .inl ⟨kvs, k, h1, ey, rfl⟩, ?_⟩
      rcases kget_ok (k := k) h3 with ⟨a, b⟩ | ⟨w, d, a, b, r⟩
      · exact .inl ⟨a, b⟩
      · exact .inr ⟨w, d, a, b, r⟩
  · rename_i ks ds ed
    obtain ⟨p, kvs, rfl, h1, rfl, h3⟩ := h.dt gh ed
    split at e
    · rename_i kd es
      cases ek : D.keys? kd with
      | none => rw [ek] at e; cases e
      | some k =>
        rw [ek] at e
        cases e
        obtain ⟨b, xs, rfl, h4, h5⟩ := hy.tup es
        rw [h5.keys ek] at h4
        refine ⟨p, valV kvs k, rfl, .inr ⟨kvs, k, b, h1, rfl, gh _ _ h4, rfl⟩, ?_⟩
        rcases kget_ok (k := k) h3 with ⟨a, b⟩ | ⟨w, d, a, b, r⟩
        · exact .inl ⟨a, b⟩
        · exact .inr ⟨w, d, a, b, r⟩
    · cases e
  · cases e
def kDget : Rv → Rv → Re Rv := fun x y => match dlook x.d y.d with
  | some (some d) => .ok (.sh d) | _ => .bad
theorem re_dget (cy : Cy X c) (ho : PE X o (tE c f)) (hi : PE X a (tE c g)) (hs : NoSl a := by intro _ _; rfl) : PE X (.Subscript o a pos) (tE c (e2 kDget f g)) := by
  have hu : X.A.units + 1 < cLine := Nat.lt_of_le_of_lt (Nat.add_le_add_left (by decide) _) cy.un
  refine PE.weak (pe_dget hu ho hi hs) ?_
  rintro σ H Q ⟨G, Γ, he, q⟩
  refine eE he q fun rx x G1 H1 eq1 g1 v1 fr1 he1 q1 => ?_
  refine eE he1 q1 fun ry y G2 H2 eq2 g2 v2 fr2 he2 q2 => ?_
  unfold kDget at q2
  split at q2
  · rename_i d ed
    obtain ⟨p, ov, e1, hd, h⟩ := dlook_ok he2.gh (v1.mono g2) v2 ed
    rcases h with ⟨_, h⟩ | ⟨w, d', h1, h2, h3⟩
    · cases h
    · cases h2
      subst h1
      exact ⟨p, w, e1, hd, post_sh he2.gh q2 h3⟩
  · exact q2.elim
def inD (x y : D) : Option Bool := match y with
  | .dk _ _ => (dlook y x).map Option.isSome
  | .dt _ _ => (dlook y x).map Option.isSome
  | .l ds => if dok 12 x = true ∧ dok 12 (.l ds) = true then some (ds.any fun z => deq z x) else none
  | .s t => (match x with | .s w => (match w.cps.toList with | [ch] => some (decide (ch ∈ t.cps.toList)) | _ => none) | _ => none)
  | _ => none
def rInA (K : PySem.W.Frag) (neg : Bool) : R2 := fun x y H Q => (∃ a o, y = .ref a ∧ DGet H a x o ∧ Q (.bl (if neg then !o.isSome else o.isSome)) H) ∨
  (∃ d ds, Dp K H x d ∧ Dp K H y (.list ds) ∧ SeqAt.shaped d = true ∧ SeqAt.shaped (.list ds) = true ∧ Q (.bl (if neg then !ds.any fun z => PyData.eqv z d else ds.any fun z => PyData.eqv z d)) H) ∨
  (∃ i j : Str, x = .str i ∧ y = .str j ∧ Q (.bl (if neg then !(!(Builtin.Str.occurrences j i 0 j.length 1).isEmpty) else !(Builtin.Str.occurrences j i 0 j.length 1).isEmpty)) H)
theorem op_inA (hu : X.A.units + 65 < cLine) : OpR X (compareOp .In) (rInA X.K false) := by
  intro pins s σ H x y v u Q I rx ry h
  rcases h with ⟨a, o, rfl, hd, q⟩ | ⟨d, ds, h1, h2, h3, h4, q⟩ | ⟨i, j, h1, h2, q⟩
  · obtain rfl : u = Value.ref a := ry
    exact d_in (by omega) I hd rx fun s3 I3 => ⟨.bl o.isSome, H, I3, rfl, q⟩
  · exact op_inD hu pins s σ H x y v u Q I rx ry ⟨d, ds, h1, h2, h3, h4, q⟩
  · exact op_in_str pins s σ H x y v u Q I rx ry ⟨i, j, h1, h2, q⟩
theorem op_notInA (hu : X.A.units + 65 < cLine) : OpR X (compareOp .NotIn) (rInA X.K true) := by
  intro pins s σ H x y v u Q I rx ry h
  rcases h with ⟨a, o, rfl, hd, q⟩ | ⟨d, ds, h1, h2, h3, h4, q⟩ | ⟨i, j, h1, h2, q⟩
  · obtain rfl : u = Value.ref a := ry
    exact d_notIn (by omega) I hd rx fun s3 I3 => ⟨.bl (!o.isSome), H, I3, rfl, q⟩
  · exact op_notInD hu pins s σ H x y v u Q I rx ry ⟨d, ds, h1, h2, h3, h4, q⟩
  · exact op_notin_str pins s σ H x y v u Q I rx ry ⟨i, j, h1, h2, q⟩
def kIn (neg : Bool) : Rv → Rv → Re Rv := fun x y => match inD x.d y.d with
  | some k => okb (if neg then !k else k) | none => .bad
theorem pys_any (x : D) : ∀ ds : List D, ((D.pys ds).any fun z => PyData.eqv z x.py) = ds.any fun z => deq z x
  | [] => by rw [D.pys]; rfl
  | d :: ds => by rw [D.pys, List.any_cons, List.any_cons, pys_any x ds]; rfl
theorem ok2_in (neg : Bool) : Ok2 c (rInA c.K neg) (kIn neg) := by
  intro σ G H x y rx ry Q gh bh hx hy q
  unfold kIn at q
  split at q
  · rename_i k ek
    have q : Post c (okb (if neg then !k else k)) σ G H Q := q
    unfold inD at ek
    split at ek
    · rename_i ks ds ed
      cases el : dlook ry.d rx.d with
      | none => rw [el] at ek; cases ek
      | some o =>
        rw [el] at ek
        cases ek
        obtain ⟨p, ov, e1, hd, h⟩ := dlook_ok gh hy hx el
        have ei : ov.isSome = o.isSome := by
          rcases h with ⟨h1, h2⟩ | ⟨w, d, h1, h2, _⟩ <;> rw [h1, h2] <;> rfl
        exact .inl ⟨p, ov, e1, hd, by rw [ei]; exact post_sh gh q (.b _)⟩
    · rename_i ks ds ed
      cases el : dlook ry.d rx.d with
      | none => rw [el] at ek; cases ek
      | some o =>
        rw [el] at ek
        cases ek
        obtain ⟨p, ov, e1, hd, h⟩ := dlook_ok gh hy hx el
        have ei : ov.isSome = o.isSome := by
          rcases h with ⟨h1, h2⟩ | ⟨w, d, h1, h2, _⟩ <;> rw [h1, h2] <;> rfl
        exact .inl ⟨p, ov, e1, hd, by rw [ei]; exact post_sh gh q (.b _)⟩
    · rename_i ds ed
      split at ek
      · rename_i hd
        cases ek
        have hdy : dok 12 ry.d = true := by rw [ed]; exact hd.2
        have dy := hy.dp gh 11 hdy
        have sy := dok_shaped hdy (by decide)
        rw [ed, D.py] at dy sy
        refine .inr (.inl ⟨_, _, hx.dp gh 11 hd.1, dy, dok_shaped hd.1 (by decide), sy, ?_⟩)
        rw [pys_any]
        exact post_sh gh q (.b _)
      · cases ek
    · rename_i t ed
      split at ek
      · rename_i w ew
        split at ek
        · rename_i ch ec
          cases ek
          have exw : w = ⟨#[ch]⟩ := by
            obtain ⟨l⟩ := w
            have : l = #[ch] := by
              apply Array.ext'
              simpa using ec
            rw [this]
          refine .inr (.inr ⟨w, t, hx.str ew, hy.str ed, ?_⟩)
          subst exw
          have e1 : (!(Builtin.Str.occurrences t ⟨#[ch]⟩ 0 t.length 1).isEmpty) = decide (ch ∈ t.cps.toList) := PySem.StrLaws.found_one t ch
          rw [e1]
          exact post_sh gh q (.b _)
        · cases ek
      · cases ek
    · cases ek
  · exact q.elim
end
structure Cy2 (X : Cx) : Prop where
  un : X.A.units + 65 < cLine
section
variable {X : Cx} {c : LC} {a b e o : Expr} {es : List Expr} {f g h : FE} {ft : FT} {fi : FI} {fa : FA} {u v : FS} {pos : Pos} {body : List Stmt}
theorem cd_in (cy : Cy X c) (hu : X.A.units + 65 < cLine) : CmpD X c .In (kIn false) := ⟨_, cy.K ▸ op_inA hu, ok2_in false⟩
theorem cd_notIn (cy : Cy X c) (hu : X.A.units + 65 < cLine) : CmpD X c .NotIn (kIn true) := ⟨_, cy.K ▸ op_notInA hu, ok2_in true⟩
def dput (dict key val : D) : Option D := match dict with
  | .dk ks ds => if ks.length < 16777216 then (key.key?).map fun k => .dk (kput ks ds k val).1 (kput ks ds k val).2 else none
  | .dt ks ds => if ks.length < 16777216 then (match key with | .t kd => (D.keys? kd).map fun k => .dt (kput ks ds k val).1 (kput ks ds k val).2 | _ => none) else none
  | _ => none
def sDput (i : Nat) (fk fv : FE) : FS := fun Γ => match Γ[i]? with
  | some (some (.fr t)) => (fv Γ).fl Γ fun r => (share r).fl Γ fun d => (fk Γ).fl Γ fun k => (match dput t k.d d with | some t' => .nx (Γ.set i (some (.fr t'))) | none => .bad)
  | _ => .bad
theorem rs_dput (cy : Cy X c) {i : Nat} {x : Str} {px pos' : Pos} (hN : X.N[i]? = some x) (hv : Vis X.env.scope x) (hk : PE X a (tE c g)) (hval : PE X e (tE c f))
    (hd : (x == ("__debug__" : Str)) = false := by decide) (hcd : (x == ("__classdict__" : Str)) = false := by decide)
    (hs : swapsWith e (some (.Subscript (.Name x px) a pos')) pos.line X.env = pure false := by rfl) : PS X (.Assign [.Subscript (.Name x px) a pos'] e pos) (tS c (sDput i g f)) := by
  have hu : X.A.units + 1 < cLine := Nat.lt_of_le_of_lt (Nat.add_le_add_left (by decide) _) cy.un
  refine PS.weak (ps_dput hu (pe_var hN hv hd hcd) hk hval hs) ?_
  rintro D σ H ⟨G, Γ, he, q⟩
  unfold sDput at q
  split at q
  · rename_i t hi
    obtain ⟨vo, h1, ⟨p, rfl, bp, gp, o⟩, _⟩ := he.at' i _ hi
    refine sS he q fun d w G1 H1 g1 r1 he1 q1 => ?_
    refine ⟨_, h1, ?_⟩
    refine sE he1 q1 fun rk y G2 H2 eq2 g2 v2 fr2 he2 q2 => ?_
    split at q2
    · rename_i t' et
      have o2 := (o.mono g1.hh g1.gg).mono g2.hh g2.gg
      have r2 := r1.mono g2.gg
      cases o2 with
      | l _ _ => cases et
      | @dk kvs ks ds h2 h3 h4 =>
        unfold dput at et
        dsimp only at et
        split at et
        · rename_i hl
          cases ek : rk.d.key? with
          | none => rw [ek] at et; cases et
          | some k =>
            rw [ek] at et
            cases et
            subst h3
            obtain ⟨e1, e2⟩ := kput_ok (k := k) h4 r2
            refine ⟨p, _, rfl, .inl ⟨kvs, k, h2, v2.key ek, by rw [sizeLine_eq]; simpa using hl, rfl⟩, ?_⟩
            exact q2 σ G2 _ (he2.put (d' := .dk (kput (kvs.map (·.1)) ds k d).1 (kput (kvs.map (·.1)) ds k d).2) hi h1 (.dk upd_same e1 e2)) (Same.refl _)
        · cases et
      | @dt kvs ks ds h2 h3 h4 =>
        unfold dput at et
        dsimp only at et
        split at et
        · rename_i hl
          split at et
          · rename_i kd ekd
            cases ek : Ly.D.keys? kd with
            | none => rw [ek] at et; cases et
            | some k =>
              rw [ek] at et
              cases et
              subst h3
              obtain ⟨e1, e2⟩ := kput_ok (k := k) h4 r2
              obtain ⟨b, xs, rfl, h5, h6⟩ := v2.tup ekd
              rw [h6.keys ek] at h5
              refine ⟨p, _, rfl, .inr ⟨kvs, k, b, h2, rfl, he2.gh _ _ h5, by rw [sizeLine_eq]; simpa using hl, rfl⟩, ?_⟩
              exact q2 σ G2 _ (he2.put (d' := .dt (kput (kvs.map (·.1)) ds k d).1 (kput (kvs.map (·.1)) ds k d).2) hi h1 (.dt upd_same e1 e2)) (Same.refl _)
          · cases et
        · cases et
    · exact q2.elim
  · exact q.elim
end
end Ly
end

section
set_option maxRecDepth 100000
namespace Ly
open PySem PySem.Spec L2
open PyProof.Rows hiding St
section
variable [Tb]
section
variable {X : Cx} {c : LC} {a b e o : Expr} {es : List Expr} {f g h : FE} {ft : FT} {fi : FI} {fa : FA} {u v : FS} {pos : Pos} {body : List Stmt} {tg : Expr}
theorem nv (i : Nat) {x : Str} (hN : X.N[i]? = some x := by rfl) (hv : Vis X.env.scope x := by first | exact Or.inl rfl | exact Or.inr (Or.inl rfl) | exact Or.inr (Or.inr rfl)) (hd : (x == ("__debug__" : Str)) = false := by decide)
    (hcd : (x == ("__classdict__" : Str)) = false := by decide) : PE X (.Name x pos) (tE c (eV i)) := re_v hN hv hd hcd
theorem re_gi {x : Str} {z : Int} (h : ∃ t, X.mg x = some (.int z t)) (hg : Gl X x := by rfl) (hd : (x == ("__debug__" : Str)) = false := by decide) : PE X (.Name x pos) (tE c (eC (.i z))) := by
  obtain ⟨t, h⟩ := h
  exact re_gl hg h (v := .int z) ⟨t, rfl⟩ (fun _ => .i z) hd
theorem re_gs {x : Str} {z : Str} (h : ∃ t, X.mg x = some (.str z t)) (hg : Gl X x := by rfl) (hd : (x == ("__debug__" : Str)) = false := by decide) : PE X (.Name x pos) (tE c (eC (.s z))) := by
  obtain ⟨t, h⟩ := h
  exact re_gl hg h (v := .str z) ⟨t, rfl⟩ (fun _ => .s z) hd
def itA (f : FE) : FI := fun Γ => (f Γ).bind fun r => match r with
  | .sh (.l ds) => .ok ds | .fr (.l ds) => .ok ds | .sh (.z ds) => .ok ds | .sh (.t ds) => .ok ds | .sh (.zt ds) => .ok ds | .sh (.s x) => .ok (signs x) | _ => .bad
theorem ri_any (cy : Cy X c) (ha : PE X e (tE c f)) : PI X tg e (tI c (itA f)) := by
  have h1 := ri_list (tg := tg) cy ha
  have h2 := ri_tup (tg := tg) cy ha
  have h3 := ri_str (tg := tg) (c := c) ha
  refine ⟨fun pins s σ H R I hq => ?_⟩
  obtain ⟨G, Γ, he, q⟩ := hq
  unfold itA at q
  cases ef : f Γ with
  | bad => exact h1.run pins s σ H R I ⟨G, Γ, he, by unfold itL; rw [ef] at q ⊢; exact q⟩
  | ex x => exact h1.run pins s σ H R I ⟨G, Γ, he, by unfold itL; rw [ef] at q ⊢; exact q⟩
  | ok r =>
    rw [ef] at q
    simp only [Re.bind_ok] at q
    split at q
    · exact h1.run pins s σ H R I ⟨G, Γ, he, by unfold itL; rw [ef]; exact q⟩
    · exact h1.run pins s σ H R I ⟨G, Γ, he, by unfold itL; rw [ef]; exact q⟩
    · exact h1.run pins s σ H R I ⟨G, Γ, he, by unfold itL; rw [ef]; exact q⟩
    · exact h2.run pins s σ H R I ⟨G, Γ, he, by unfold itT; rw [ef]; exact q⟩
    · exact h2.run pins s σ H R I ⟨G, Γ, he, by unfold itT; rw [ef]; exact q⟩
    · exact h3.run pins s σ H R I ⟨G, Γ, he, by unfold itS; rw [ef]; exact q⟩
    · exact q.elim
theorem rgn_nil : PGs X [] (gNames []) := pgs_nil
theorem rgn_cons (cy : Cy X c) {i : Nat} {x : Str} {px : Pos} {is : List Nat} (hr : PGs X es (gNames is)) (hi : X.N[i]? = some x := by rfl) (hx : Loc X.env.scope x := by first | exact Or.inl rfl | exact Or.inr rfl)
    (hf : X.fn x = true ∨ X.env.scope.names.lookup x = some .local := by first | exact .inl rfl | exact .inr rfl)
    (hs : (assignEach (.Name x px :: es) X.env).map (·.2) = assign (.Name x px) X.env :: (assignEach es X.env).map (·.2) := by rfl) : PGs X (.Name x px :: es) (gNames (i :: is)) :=
  pgs_cons (pg_name cy.nd hi hx hf) hr hs
theorem rg_names (cy : Cy X c) {k : Nat} {is : List Nat} (h : PGs X es (gNames is)) (hn : (assignEach es X.env).length = is.length := by rfl) (hst : (assignEach es X.env).findIdx? (·.1) = none := by rfl) :
    PG X (.Tuple es k pos) ((Tg.tup is).tgt c.K) := cy.K ▸ pg_tup cy.calm h hn hst
theorem rg1 (cy : Cy X c) (i : Nat) {x : Str} (hi : X.N[i]? = some x := by rfl) (hx : Loc X.env.scope x := by first | exact Or.inl rfl | exact Or.inr rfl)
    (hf : X.fn x = true ∨ X.env.scope.names.lookup x = some .local := by first | exact .inl rfl | exact .inr rfl) : PG X (.Name x pos) ((Tg.one i).tgt c.K) := rg_one cy hi hx hf
def sPar (i j : Nat) (f g : FE) : FS := fun Γ => (f Γ).fl Γ fun r => (share r).fl Γ fun d => (g Γ).fl Γ fun s => (share s).fl Γ fun e => .nx ((Γ.set i (some (.sh d))).set j (some (.sh e)))
theorem rs_par (cy : Cy X c) {i j : Nat} {x y : Str} {px py pt : Pos} {kt k2 pt2} (hi : X.N[i]? = some x) (hj : X.N[j]? = some y) (hij : i ≠ j)
    (hx : X.env.scope.names.lookup x = some .local) (hy : X.env.scope.names.lookup y = some .local) (ha : PE X a (tE c f)) (hb : PE X b (tE c g))
    (hw : swappedStores [.Tuple [.Name x px, .Name y py] kt pt] (.Tuple [a, b] k2 pt2) X.env = pure (some [x, y]))
    (hs : swapsWithSole [.Tuple [.Name x px, .Name y py] kt pt] (.Tuple [a, b] k2 pt2) pos.line X.env = pure false := by rfl)
    (h1 : starEach [a, b] X.env = (false, eval a X.env) :: starEach [b] X.env := by rfl) (h2 : starEach [b] X.env = [(false, eval b X.env)] := by rfl) :
    PS X (.Assign [.Tuple [.Name x px, .Name y py] kt pt] (.Tuple [a, b] k2 pt2) pos) (tS c (sPar i j f g)) := by
  refine PS.weak (ps_par cy.calm cy.nd hi hj hij hx hy (pa_cons ha (pa_cons hb pa_nil h2) h1) hw hs) ?_
  rintro D σ H ⟨G, Γ, he, q⟩
  refine sS he q fun d v G1 H1 g1 r1 he1 q1 => ?_
  refine sS he1 q1 fun d2 v2 G2 H2 g2 r2 he2 q2 => ?_
  exact ⟨v, v2, rfl, q2 _ G2 H2 ((he2.setSh i (r1.mono g2.gg)).setSh j r2) (Same.refl _)⟩
theorem rt_isN {j pos'} (ha : PE X a (tE c f)) : PT X (.Compare a [.Is] [.Constant .none j pos'] pos) (tT c (tV (e2 (kIs false) f (eC .n)))) := by
  refine tV_test (t := tIsN (tE c f)) (pt_cmp (pc_isN ha)) ?_
  rintro σ H Q ⟨G, Γ, he, q⟩
  refine eE he q fun rx x G1 H1 e1 g1 v1 fr1 he1 q1 => ?_
  have q1 : Post c (okb (isN rx)) σ G1 H1 Q := q1
  rw [v1.isN]
  exact post_sh he1.gh q1 (.b _)
theorem rt_notN {j pos'} (ha : PE X a (tE c f)) : PT X (.Compare a [.IsNot] [.Constant .none j pos'] pos) (tT c (tV (e2 (kIs true) f (eC .n)))) := by
  refine tV_test (t := tNotN (tE c f)) (pt_cmp (pc_notN ha)) ?_
  rintro σ H Q ⟨G, Γ, he, q⟩
  refine eE he q fun rx x G1 H1 e1 g1 v1 fr1 he1 q1 => ?_
  have q1 : Post c (okb (!isN rx)) σ G1 H1 Q := q1
  show Q (.bl (!decide (x = .non))) H1
  rw [v1.isN]
  exact post_sh he1.gh q1 (.b _)
def kLr1 : Rv → Re Rv := fun r => match r.d with | .i j => kLr 0 j | _ => .bad
def kAug_add : Rv → Rv → Re Rv := kI fun i j => oki (i + j)
def kAug_mul : Rv → Rv → Re Rv := kI fun i j => if (-(2 ^ 64) < i ∧ i < 2 ^ 64) ∨ (-(2 ^ 64) < j ∧ j < 2 ^ 64) then oki (i * j) else .bad
def kAug_mod : Rv → Rv → Re Rv := kI fun i j => if 0 < j then oki (i % j) else .bad
def kAug_div : Rv → Rv → Re Rv := kI fun i j => if 0 < j ∧ j < 1073741824 then oki (i / j) else .bad
variable {i : Nat} {x : Str} {pos' : Pos}
theorem ra_add (cy : Cy X c) (hi : X.N[i]? = some x) (hx : Loc X.env.scope x) (ha : PE X e (tE c f)) (hf : X.fn x = true ∨ X.env.scope.names.lookup x = some .local := by first | exact .inl rfl | exact .inr rfl) :
    PS X (.AugAssign (.Name x pos') .Add e pos) (tS c (sAug i kAug_add f)) := rs_aug cy hi hx iop_add ok2_I0 ha hf
theorem ra_mul (cy : Cy X c) (hi : X.N[i]? = some x) (hx : Loc X.env.scope x) (ha : PE X e (tE c f)) (hf : X.fn x = true ∨ X.env.scope.names.lookup x = some .local := by first | exact .inl rfl | exact .inr rfl) :
    PS X (.AugAssign (.Name x pos') .Mult e pos) (tS c (sAug i kAug_mul f)) := rs_aug cy hi hx iop_mul (ok2_I (h := fun i j => i * j) fun i j => by
      by_cases hj : (-(2 ^ 64) < i ∧ i < 2 ^ 64) ∨ (-(2 ^ 64) < j ∧ j < 2 ^ 64)
      · left; rw [if_pos hj]; exact ⟨rfl, hj⟩
      · right; rw [if_neg hj]) ha hf
theorem ra_mod (cy : Cy X c) (hi : X.N[i]? = some x) (hx : Loc X.env.scope x) (ha : PE X e (tE c f)) (hf : X.fn x = true ∨ X.env.scope.names.lookup x = some .local := by first | exact .inl rfl | exact .inr rfl) :
    PS X (.AugAssign (.Name x pos') .Mod e pos) (tS c (sAug i kAug_mod f)) := rs_aug cy hi hx iop_mod (ok2_I (h := fun i j => i % j) fun i j => by by_cases hj : 0 < j <;> simp [hj]) ha hf
theorem ra_div (cy : Cy X c) (hi : X.N[i]? = some x) (hx : Loc X.env.scope x) (ha : PE X e (tE c f)) (hf : X.fn x = true ∨ X.env.scope.names.lookup x = some .local := by first | exact .inl rfl | exact .inr rfl) :
    PS X (.AugAssign (.Name x pos') .FloorDiv e pos) (tS c (sAug i kAug_div f)) := rs_aug cy hi hx iop_fdiv (ok2_I (h := fun i j => i / j) fun i j => by
      by_cases hj : 0 < j ∧ j < 1073741824
      · left; rw [if_pos hj]; exact ⟨rfl, hj⟩
      · right; rw [if_neg hj]) ha hf
end
end
theorem _root_.L2.Room.units65 {k : Nat} {A : Around} (r : Room k A) : A.units + 65 < cLine := by have := r.un; omega
theorem only_noT {H : Hp} (h : Only H) : NoT H := fun a ps e => by
  rcases h a with z | ⟨o, xs, z⟩ <;> rw [z] at e <;> cases e
theorem walk_law {l : PySem.W.OpenLaw} {q : Program} {loose : List Str} {XP : (Str → Option Value) → Heap → Prop} {YP : World → Heap → Prop} {d : DefRec} {K : Params → PySem.W.Frag} {k : Nat} {x : Str} {F : List D → Re Rv} (hn : l.most = some 63) (hdf : d.params.defaults = []) (hr : Room k callerA)
    (hY : ∀ (w : World) (h : Heap), YP w h → (K w.params).In h)
    (hF : ∀ (w : World) (mg : Str → Option Value) (fa : Addr) (h : Heap), (K w.params).In h → h.Ns mainGlobals mg → mg d.name = some (.ref fa) →
      ∃ fd : FuncData, (∀ (s : Shared) (u : Value), BindsTo s fd ⟨[u], []⟩ [(x, u)]) ∧ ∀ base : Heap, (K w.params).In base → base.Ns mainGlobals mg → FnOk l.prog w (K w.params) mg base (L2N.CX l.prog w) k fa fd [x] (spF (K w.params) mg 1 F))
    (ht : ∀ ns : List Int, ns.length ≤ 63 → F [.z (ns.map .i)] = .ok (.sh (.b true))) :
    PySem.W.WalkO q loose XP YP l.row.toRowW d [] (fun f vs => PySem.call f vs) := by
  refine L2.walk_of (n := 63) (k := k) (x := x) (CX := fun w => L2N.CX l.prog w)
    (sp := fun w vs H Q _ => ∃ (a : Addr) (ns : List Int), vs = [.ref a] ∧ NoT H ∧ SqL (K w.params) H a (ns.map V.int) ∧ ns.length ≤ 63 ∧ ∀ H', Q (.bl true) H') hn (by decide) hdf hr hY ?_ (fun w H a ns h1 h2 h3 => ⟨a, ns, rfl, only_noT h2, h3, h1, fun _ => rfl⟩) ?_
  · intro w mg fa h KX G hmg
    obtain ⟨fd, hb, h⟩ := hF w mg fa h KX G hmg
    refine ⟨fd, hb, fun base hK hG => (h base hK hG).imp fun vs H Q E ⟨a, ns, e, ho, hs, hl, hq⟩ => ?_⟩
    subst e
    refine ⟨H, [.z (ns.map .i)], rfl, ⟨Same.refl _, ho, fun q hq => absurd (show q ∈ ([] : List (Addr × Str)) from hq) (by simp)⟩, .cons (.z hs (Reps.ofInts ns)) .nil, ?_⟩
    rw [ht ns hl]
    intro v G' H' g rv
    cases rv.bl_inv
    exact hq H'
  · intro w H s e s' h
    obtain ⟨_, _, _, _, _, _, _, _, _, _, _, _, z⟩ := h
    exact z
end Ly
end

section
set_option maxRecDepth 100000
namespace Ly
open PySem PySem.Spec L2
open PyProof.Rows hiding St
section
variable {Γ : Env'} {f g h : FE} {ft gt : FT} {fa : FA} {fi : FI} {u v : FS}
@[simp] theorem eV_0 {a : Option Rv} {r : Env'} : eV 0 (a :: r) = match (a : Option Rv) with | some (.sh d) => .ok (.sh d) | some (.fr d) => .ok (.bo d) | _ => .bad := by
  cases a with
  | none => rfl
  | some x => cases x <;> rfl
@[simp] theorem eV_s {i : Nat} {a : Option Rv} {r : Env'} : eV (i + 1) (a :: r) = eV i r := rfl
@[simp] theorem eC_at {d : D} : eC d Γ = .ok (.sh d) := rfl
@[simp] theorem e1_at {k : Rv → Re Rv} : e1 k f Γ = (f Γ).bind k := rfl
@[simp] theorem e2_at {k : Rv → Rv → Re Rv} : e2 k f g Γ = (f Γ).bind fun x => (g Γ).bind fun y => k x y := rfl
@[simp] theorem eIf_at : eIf ft f g Γ = (ft Γ).bind fun x => if x = true then f Γ else g Γ := rfl
@[simp] theorem eAnd_at : eAnd f g Γ = (f Γ).bind fun x => match x with | .sh (.b true) => g Γ | .sh (.b false) => .ok (.sh (.b false)) | _ => .bad := rfl
@[simp] theorem eOr_at : eOr f g Γ = (f Γ).bind fun x => match x with | .sh (.b true) => .ok (.sh (.b true)) | .sh (.b false) => g Γ | _ => .bad := rfl
@[simp] theorem eNot_at : eNot f Γ = (f Γ).bind fun x => match x with | .sh (.b k) => .ok (.sh (.b (!k))) | _ => .bad := rfl
@[simp] theorem tV_at : tV f Γ = (f Γ).bind kB := rfl
@[simp] theorem kB_b {x : Bool} : kB (.sh (.b x)) = .ok x := rfl
@[simp] theorem tNotF_at : tNotF ft Γ = (ft Γ).bind fun x => .ok (!x) := rfl
@[simp] theorem tAndF_at : tAndF ft gt Γ = (ft Γ).bind fun x => if x = true then gt Γ else .ok false := rfl
@[simp] theorem tOrF_at : tOrF ft gt Γ = (ft Γ).bind fun x => if x = true then .ok true else gt Γ := rfl
@[simp] theorem aNil_at : aNil Γ = .ok [] := rfl
@[simp] theorem aCons_at : aCons f fa Γ = (f Γ).bind fun r => (share r).bind fun d => (fa Γ).bind fun ds => .ok (d :: ds) := rfl
@[simp] theorem share_sh {d : D} : share (.sh d) = .ok d := rfl
@[simp] theorem share_fr {d : D} : share (.fr d) = .ok d := rfl
@[simp] theorem eLst_at : eLst fa Γ = (fa Γ).bind fun ds => if ds.length ≤ 16777216 then .ok (.fr (.l ds)) else .bad := rfl
@[simp] theorem eTup_at : eTup fa Γ = (fa Γ).bind fun ds => if ds.length ≤ 16777216 then .ok (.sh (.t ds)) else .bad := rfl
@[simp] theorem eSl_at {lo hi : FO} : eSl f lo hi Γ = (f Γ).bind fun r => (lo Γ).bind fun l => (hi Γ).bind fun h => kSl r l h := rfl
@[simp] theorem oNo_at : oNo Γ = .ok none := rfl
@[simp] theorem oIs_at : oIs f Γ = (f Γ).bind fun r => match r with | .sh (.i k) => .ok (some k) | _ => .bad := rfl
@[simp] theorem eCall_at {n : Nat} {F : List D → Re Rv} : eCall n F fa Γ = (fa Γ).bind fun ds => if ds.length = n then (match F ds with | .ok (.bo _) => .bad | r => r) else .bad := rfl
@[simp] theorem eCh_at {k k' : Rv → Rv → Re Rv} : eCh k k' f g h Γ = (f Γ).bind fun x => (g Γ).bind fun y => (k x y).bind fun z => match z with | .sh (.b true) => (h Γ).bind fun w => k' y w | .sh (.b false) => .ok (.sh (.b false)) | _ => .bad := rfl
@[simp] theorem eLc_at {t : Tg} {fe : FE} {own : List Nat} : eLc fi t ft fe own Γ = (fi Γ).bind fun ds => lcRes (lcL t ft fe (wipeG Γ own) ds) := rfl
@[simp] theorem itR1_at : itR1 f Γ = (f Γ).bind fun r => match r with | .sh (.i j) => itR 0 j | _ => .bad := rfl
@[simp] theorem itR2_at : itR2 f g Γ = (f Γ).bind fun r => (g Γ).bind fun s => match r, s with | .sh (.i i), .sh (.i j) => itR i j | _, _ => .bad := rfl
@[simp] theorem itA_at : itA f Γ = (f Γ).bind fun r => match r with | .sh (.l ds) => .ok ds | .fr (.l ds) => .ok ds | .sh (.z ds) => .ok ds | .sh (.t ds) => .ok ds | .sh (.zt ds) => .ok ds | .sh (.s x) => .ok (signs x) | _ => .bad := rfl
@[simp] theorem fl_ok {α : Type} {a : α} {k : α → Fl} : (Re.ok a).fl Γ k = k a := rfl
@[simp] theorem fl_ex {α : Type} {e : Exn} {k : α → Fl} : (Re.ex e : Re α).fl Γ k = .ex e Γ := rfl
@[simp] theorem fl_bad {α : Type} {k : α → Fl} : (Re.bad : Re α).fl Γ k = .bad := rfl
@[simp] theorem sNil_at : sNil Γ = .nx Γ := rfl
@[simp] theorem sSeq_at : sSeq u v Γ = match u Γ with | .nx Γ' => v Γ' | o => o := rfl
@[simp] theorem sIf_at : sIf ft u v Γ = (ft Γ).fl Γ fun b => if b = true then u Γ else v Γ := rfl
@[simp] theorem sRet_at : sRet f Γ = (f Γ).fl Γ fun r => match r with | .bo d => .rt (.fr d) | r => .rt r := rfl
@[simp] theorem sEx_at : sEx f Γ = (f Γ).fl Γ fun _ => .nx Γ := rfl
@[simp] theorem sSet_at {i : Nat} : sSet i f Γ = (f Γ).fl Γ (setR i Γ) := rfl
@[simp] theorem setR_sh {i : Nat} {d : D} : setR i Γ (.sh d) = .nx (Γ.set i (some (.sh d))) := rfl
@[simp] theorem setR_fr {i : Nat} {d : D} : setR i Γ (.fr d) = .nx (Γ.set i (some (.fr d))) := rfl
@[simp] theorem sFrz_at {i : Nat} : sFrz i u Γ = u (frz i Γ) := rfl
@[simp] theorem frz_0 {a : Option Rv} {r : Env'} : frz 0 (a :: r) = (match (a : Option Rv) with | some (.fr d) => some (.sh d) | o => o) :: r := by
  cases a with
  | none => rfl
  | some x => cases x <;> rfl
theorem frz_len (i : Nat) (Γ : Env') : (frz i Γ).length = Γ.length := by unfold frz; split <;> simp
@[simp] theorem frz_s {i : Nat} {a : Option Rv} {r : Env'} : frz (i + 1) (a :: r) = a :: frz i r := by
  unfold frz
  rw [List.getElem?_cons_succ]
  cases h : r[i]? with
  | none => rfl
  | some o =>
    cases o with
    | none => rfl
    | some x => cases x <;> rfl
@[simp] theorem sFor_at {t : Tg} : sFor fi t u Γ = (fi Γ).fl Γ fun ds => forL t u ds Γ := rfl
@[simp] theorem sWh_at {n : Nat} : sWh n ft u Γ = whL ft u n Γ := rfl
@[simp] theorem sRaise_at {x : Str} : sRaise x Γ = .ex ⟨x, none⟩ Γ := rfl
@[simp] theorem sAsg_at {t : Tg} : sAsg t f Γ = (f Γ).fl Γ fun r => match r with | .sh d => (match t.set d Γ with | some Γ' => .nx Γ' | none => .bad) | _ => .bad := rfl
@[simp] theorem sAsgT_at {s : D → Env' → Re Env'} : sAsgT s f Γ = (f Γ).fl Γ fun r => (share r).fl Γ fun d => match s d Γ with | .ok Γ' => .nx Γ' | _ => .bad := rfl
@[simp] theorem one_set {i : Nat} {d : D} : Tg.set (.one i) d Γ = some (Γ.set i (some (.sh d))) := rfl
@[simp] theorem tup_set {is : List Nat} {ds : List D} : Tg.set (.tup is) (.t ds) Γ = setN is ds Γ := rfl
@[simp] theorem setN_nil : setN [] [] Γ = some Γ := rfl
@[simp] theorem setN_cons {i : Nat} {is : List Nat} {d : D} {ds : List D} : setN (i :: is) (d :: ds) Γ = setN is ds (Γ.set i (some (.sh d))) := rfl
@[simp] theorem sApp_at {i : Nat} : sApp i f Γ = match Γ[i]? with
  | some (some (.fr (.l ds))) => (f Γ).fl Γ fun r => (share r).fl Γ fun d => if ds.length < 16777216 then .nx (Γ.set i (some (.fr (.l (ds ++ [d]))))) else .bad
  | _ => .bad := rfl
@[simp] theorem wipeG_nil : wipeG Γ [] = Γ := rfl
@[simp] theorem wipeG_cons {i : Nat} {is : List Nat} : wipeG Γ (i :: is) = (wipeG Γ is).set i none := rfl
@[simp] theorem Rv.d_sh {d : D} : (Rv.sh d).d = d := rfl
@[simp] theorem Rv.d_fr {d : D} : (Rv.fr d).d = d := rfl
@[simp] theorem Rv.d_bo {d : D} : (Rv.bo d).d = d := rfl
@[simp] theorem kI_i {k : Int → Int → Re Rv} {a b : Int} : kI k (.sh (.i a)) (.sh (.i b)) = k a b := rfl
@[simp] theorem kAdd_i {a b : Int} : kAdd (.sh (.i a)) (.sh (.i b)) = .ok (.sh (.i (a + b))) := rfl
@[simp] theorem kSub_i {a b : Int} : kSub (.sh (.i a)) (.sh (.i b)) = .ok (.sh (.i (a - b))) := rfl
@[simp] theorem kLt_i {a b : Int} : kLt (.sh (.i a)) (.sh (.i b)) = .ok (.sh (.b (decide (a < b)))) := rfl
@[simp] theorem kLe_i {a b : Int} : kLe (.sh (.i a)) (.sh (.i b)) = .ok (.sh (.b (decide (a ≤ b)))) := rfl
@[simp] theorem kGt_i {a b : Int} : kGt (.sh (.i a)) (.sh (.i b)) = .ok (.sh (.b (decide (b < a)))) := rfl
@[simp] theorem kGe_i {a b : Int} : kGe (.sh (.i a)) (.sh (.i b)) = .ok (.sh (.b (decide (b ≤ a)))) := rfl
theorem kMod_i {a b : Int} (h : 0 < b) : kMod (.sh (.i a)) (.sh (.i b)) = .ok (.sh (.i (a % b))) := by unfold kMod; rw [kI_i, if_pos h]; rfl
theorem kDiv_i {a b : Int} (h : 0 < b ∧ b < 1073741824) : kDiv (.sh (.i a)) (.sh (.i b)) = .ok (.sh (.i (a / b))) := by unfold kDiv; rw [kI_i, if_pos h]; rfl
theorem kMul_l {a b : Int} (h : -(2 ^ 64) < a ∧ a < 2 ^ 64) : kMul (.sh (.i a)) (.sh (.i b)) = .ok (.sh (.i (a * b))) := by unfold kMul; simp only [Rv.d]; rw [if_pos (.inl h)]; rfl
theorem kMul_r {a b : Int} (h : -(2 ^ 64) < b ∧ b < 2 ^ 64) : kMul (.sh (.i a)) (.sh (.i b)) = .ok (.sh (.i (a * b))) := by unfold kMul; simp only [Rv.d]; rw [if_pos (.inr h)]; rfl
theorem kPow_i {a b : Int} (h : 0 ≤ b ∧ b ≤ 1000000 ∧ a.natAbs < 2 ^ 64) : kPow (.sh (.i a)) (.sh (.i b)) = .ok (.sh (.i (a ^ b.toNat))) := by unfold kPow; rw [kI_i, if_pos h]; rfl
@[simp] theorem kNeg_i {a : Int} : kNeg (.sh (.i a)) = .ok (.sh (.i (-a))) := rfl
@[simp] theorem kSl_z {ds : List D} {lo hi : Option Int} : kSl (.sh (.z ds)) lo hi = .ok (.fr (.l (cut ds lo hi))) := rfl
@[simp] theorem kSl_l {ds : List D} {lo hi : Option Int} : kSl (.sh (.l ds)) lo hi = .ok (.fr (.l (cut ds lo hi))) := rfl
@[simp] theorem kSl_bl {ds : List D} {lo hi : Option Int} : kSl (.bo (.l ds)) lo hi = .ok (.fr (.l (cut ds lo hi))) := rfl
@[simp] theorem kSl_fl {ds : List D} {lo hi : Option Int} : kSl (.fr (.l ds)) lo hi = .ok (.fr (.l (cut ds lo hi))) := rfl
theorem cut_map {α β : Type} (f : α → β) (xs : List α) (lo hi : Option Int) : cut (xs.map f) lo hi = (cut xs lo hi).map f := by
  unfold cut
  simp [List.map_take, List.map_drop]
theorem cut_length_le {α : Type} (xs : List α) (lo hi : Option Int) : (cut xs lo hi).length ≤ xs.length := by
  unfold cut
  simp only [List.length_take, List.length_drop]
  omega
theorem cut_mem {α : Type} {xs : List α} {lo hi : Option Int} {x : α} (h : x ∈ cut xs lo hi) : x ∈ xs := List.mem_of_mem_drop (List.mem_of_mem_take h)
theorem cut_to {α : Type} {xs : List α} {n : Nat} (h : n ≤ xs.length) : cut xs none (some (n : Int)) = xs.take n := by
  have e1 : HT.sIx xs.length 0 none = 0 := rfl
  have e2 : HT.sIx xs.length xs.length (some (n : Int)) = n := by simp only [HT.sIx]; split <;> omega
  unfold cut
  rw [e1, e2]
  simp
theorem cut_from {α : Type} {xs : List α} {n : Nat} (h : n ≤ xs.length) : cut xs (some (n : Int)) none = xs.drop n := by
  have e1 : HT.sIx xs.length xs.length none = xs.length := rfl
  have e2 : HT.sIx xs.length 0 (some (n : Int)) = n := by simp only [HT.sIx]; split <;> omega
  unfold cut
  rw [e1, e2]
  rw [List.take_of_length_le]
  simp
theorem cut_ab {α : Type} {xs : List α} {a b : Nat} (ha : a ≤ xs.length) (hb : b ≤ xs.length) : cut xs (some (a : Int)) (some (b : Int)) = (xs.drop a).take (b - a) := by
  have e1 : HT.sIx xs.length xs.length (some (b : Int)) = b := by simp only [HT.sIx]; split <;> omega
  have e2 : HT.sIx xs.length 0 (some (a : Int)) = a := by simp only [HT.sIx]; split <;> omega
  unfold cut
  rw [e1, e2]
theorem itR_ok {a b : Int} (h : rgb a b = true) : itR a b = .ok (rgD a b) := by unfold itR; rw [if_pos h]
theorem rgD_nat (n : Nat) : rgD 0 n = (List.range n).map fun i => D.i ((i : Nat) : Int) := by unfold rgD; simp
theorem rgD_get {a b : Int} {i : Nat} {d : D} (h : (rgD a b)[i]? = some d) : d = .i (a + (i : Nat)) ∧ a + (i : Nat) < b := by
  unfold rgD at h
  rw [List.getElem?_map] at h
  by_cases hl : i < (b - a).toNat
  · rw [List.getElem?_range hl] at h
    cases h
    exact ⟨rfl, by omega⟩
  · rw [List.getElem?_eq_none (by simpa using hl)] at h; cases h
@[simp] theorem kLen_l {ds : List D} : kLen (.sh (.l ds)) = .ok (.sh (.i ds.length)) := rfl
@[simp] theorem kLen_fl {ds : List D} : kLen (.fr (.l ds)) = .ok (.sh (.i ds.length)) := rfl
@[simp] theorem kLen_bl {ds : List D} : kLen (.bo (.l ds)) = .ok (.sh (.i ds.length)) := rfl
@[simp] theorem kLen_t {ds : List D} : kLen (.sh (.t ds)) = .ok (.sh (.i ds.length)) := rfl
@[simp] theorem kLen_z {ds : List D} : kLen (.sh (.z ds)) = .ok (.sh (.i ds.length)) := rfl
def ixR (ds : List D) (k : Int) : Re Rv := match atI ds k with | some d => .ok (.sh d) | none => .bad
@[simp] theorem kIx_l {ds : List D} {k : Int} : kIx (.sh (.l ds)) (.sh (.i k)) = ixR ds k := rfl
@[simp] theorem kIx_fl {ds : List D} {k : Int} : kIx (.fr (.l ds)) (.sh (.i k)) = ixR ds k := rfl
@[simp] theorem kIx_bl {ds : List D} {k : Int} : kIx (.bo (.l ds)) (.sh (.i k)) = ixR ds k := rfl
@[simp] theorem kIx_t {ds : List D} {k : Int} : kIx (.sh (.t ds)) (.sh (.i k)) = ixR ds k := rfl
@[simp] theorem kIx_z {ds : List D} {k : Int} : kIx (.sh (.z ds)) (.sh (.i k)) = ixR ds k := rfl
theorem atI_is {α : Type} {xs : List α} {k : Int} {n : Nat} {x : α} (e : k = (n : Int)) (h : xs[n]? = some x) : atI xs k = some x := by
  have hl : n < xs.length := (List.getElem?_eq_some_iff.mp h).1
  unfold atI ixN
  subst e
  rw [if_pos (Int.natCast_nonneg _), if_pos (by omega)]
  simpa using h
theorem ixR_is {ds : List D} {k : Int} {n : Nat} {d : D} (e : k = (n : Int)) (h : ds[n]? = some d) : ixR ds k = .ok (.sh d) := by unfold ixR; rw [atI_is e h]
@[simp] theorem ixR_0 {d : D} {ds : List D} : ixR (d :: ds) 0 = .ok (.sh d) := ixR_is (n := 0) rfl rfl
@[simp] theorem ixR_1 {a d : D} {ds : List D} : ixR (a :: d :: ds) 1 = .ok (.sh d) := ixR_is (n := 1) rfl rfl
@[simp] theorem ixR_2 {a b d : D} {ds : List D} : ixR (a :: b :: d :: ds) 2 = .ok (.sh d) := ixR_is (n := 2) rfl rfl
@[simp] theorem ixR_3 {a b e d : D} {ds : List D} : ixR (a :: b :: e :: d :: ds) 3 = .ok (.sh d) := ixR_is (n := 3) rfl rfl
theorem ixR_row {row : List Int} {k : Int} {n : Nat} (e : k = (n : Int)) (h : n < row.length) : ixR (row.map D.i) k = .ok (.sh (.i row[n])) := ixR_is e (by simp [h])
theorem cut_row_from {row : List Int} {k : Int} {n : Nat} (e : k = (n : Int)) (h : n ≤ row.length) : cut (row.map D.i) (some k) none = (row.drop n).map D.i := by
  subst e
  rw [cut_map, cut_from h]
theorem cut_row_ab {row : List Int} {j k : Int} {a b : Nat} (e1 : j = (a : Int)) (e2 : k = (b : Int)) (ha : a ≤ row.length) (hb : b ≤ row.length) : cut (row.map D.i) (some j) (some k) = ((row.drop a).take (b - a)).map D.i := by
  subst e1 e2
  rw [cut_map, cut_ab ha hb]
theorem forL_inv {t : Tg} {I : Env' → Prop} : ∀ {ds : List D} {Γ : Env'}, I Γ → (∀ d ∈ ds, ∀ Γ, I Γ → ∃ Γ1, t.set d Γ = some Γ1 ∧ ∃ Γ', (u Γ1 = .nx Γ' ∨ u Γ1 = .ct Γ') ∧ I Γ') → ∃ Γ', forL t u ds Γ = .nx Γ' ∧ I Γ'
  | [], Γ, h, _ => ⟨Γ, rfl, h⟩
  | d :: ds, Γ, h, hs => by
    obtain ⟨Γ1, e1, Γ', e2, h'⟩ := hs d List.mem_cons_self Γ h
    obtain ⟨Γ2, e3, h2⟩ := forL_inv (ds := ds) h' fun d' hd => hs d' (List.mem_cons_of_mem _ hd)
    refine ⟨Γ2, ?_, h2⟩
    unfold forL
    rw [e1]
    rcases e2 with e2 | e2 <;> (dsimp only; rw [e2]; exact e3)
theorem forL_at {t : Tg} {I : Nat → Env' → Prop} {ds : List D} (n : Nat) : ∀ {m : Nat} {Γ : Env'}, m + n = ds.length → I m Γ → (∀ i d, m ≤ i → ds[i]? = some d → ∀ Γ, I i Γ → ∃ Γ1, t.set d Γ = some Γ1 ∧ ∃ Γ', (u Γ1 = .nx Γ' ∨ u Γ1 = .ct Γ') ∧ I (i + 1) Γ') →
    ∃ Γ', forL t u (ds.drop m) Γ = .nx Γ' ∧ I ds.length Γ' := by
  induction n with
  | zero =>
    intro m Γ hm h _
    have e : m = ds.length := by omega
    subst e
    rw [List.drop_length]
    exact ⟨Γ, rfl, h⟩
  | succ n ih =>
    intro m Γ hm h hs
    have hl : m < ds.length := by omega
    obtain ⟨Γ1, e1, Γ', e2, h'⟩ := hs m ds[m] (Nat.le_refl _) (by simp [hl]) Γ h
    obtain ⟨Γ2, e3, h2⟩ := ih (m := m + 1) (by omega) h' fun i d hi hd => hs i d (by omega) hd
    refine ⟨Γ2, ?_, h2⟩
    rw [List.drop_eq_getElem_cons hl]
    unfold forL
    rw [e1]
    rcases e2 with e2 | e2 <;> (dsimp only; rw [e2]; exact e3)
theorem forL_num {t : Tg} {I : Nat → Env' → Prop} {ds : List D} {Γ : Env'} (h : I 0 Γ) (hs : ∀ i d, ds[i]? = some d → ∀ Γ, I i Γ → ∃ Γ1, t.set d Γ = some Γ1 ∧ ∃ Γ', (u Γ1 = .nx Γ' ∨ u Γ1 = .ct Γ') ∧ I (i + 1) Γ') :
    ∃ Γ', forL t u ds Γ = .nx Γ' ∧ I ds.length Γ' := by
  have := forL_at (t := t) (u := u) (I := I) (ds := ds) ds.length (m := 0) (by omega) h fun i d _ hd => hs i d hd
  rwa [List.drop_zero] at this
theorem whL_inv {I : Nat → Env' → Prop} : ∀ (n m : Nat) {Γ : Env'}, m < n → I m Γ → (∀ m Γ, I m Γ → (m = 0 ∧ ft Γ = .ok false) ∨ ∃ m', m = m' + 1 ∧ ft Γ = .ok true ∧ ∃ Γ', (u Γ = .nx Γ' ∨ u Γ = .ct Γ') ∧ I m' Γ') → ∃ Γ', whL ft u n Γ = .nx Γ' ∧ I 0 Γ'
  | 0, m, Γ, hm, _, _ => absurd hm (Nat.not_lt_zero _)
  | n + 1, m, Γ, hm, h, hs => by
    rcases hs m Γ h with ⟨e, e1⟩ | ⟨m', e, e1, Γ', e2, h'⟩
    · subst e
      refine ⟨Γ, ?_, h⟩
      unfold whL
      rw [e1]; rfl
    · subst e
      obtain ⟨Γ2, e3, h2⟩ := whL_inv n m' (by omega) h' hs
      refine ⟨Γ2, ?_, h2⟩
      unfold whL
      rw [e1, fl_ok, if_pos rfl]
      rcases e2 with e2 | e2 <;> (rw [e2]; exact e3)
end
end Ly
end

section
set_option maxRecDepth 100000
namespace Ly
open PySem PySem.Spec L2
open PyProof.Rows hiding St
section
variable {Γ : Env'}
@[simp] theorem kEq_i {a b : Int} : kEq (.sh (.i a)) (.sh (.i b)) = .ok (.sh (.b (decide (a = b)))) := by
  unfold kEq
  rw [if_pos ⟨rfl, rfl⟩]
  show okb (a == b) = _
  rfl
@[simp] theorem kNe_i {a b : Int} : kNe (.sh (.i a)) (.sh (.i b)) = .ok (.sh (.b (!decide (a = b)))) := by
  unfold kNe
  rw [if_pos ⟨rfl, rfl⟩]
  rfl
@[simp] theorem kMin2_i {a b : Int} : kMin2 (.sh (.i a)) (.sh (.i b)) = .ok (.sh (.i (if b < a then b else a))) := rfl
@[simp] theorem kMax2_i {a b : Int} : kMax2 (.sh (.i a)) (.sh (.i b)) = .ok (.sh (.i (if b > a then b else a))) := rfl
def dsame : Nat → D → Bool
  | _, .n => true | _, .b _ => true | _, .i _ => true | _, .s x => PyData.strOk x
  | n + 1, .l xs => xs.all (dsame n) && decide (xs.length ≤ 16777216) | n + 1, .t xs => xs.all (dsame n) && decide (xs.length ≤ 16777216)
  | _, _ => false
theorem lcL_same {t : Tg} {fe : FE} {y : D} {Γ0 : Env'} : ∀ {ds : List D}, (∀ d ∈ ds, ∃ Γ1, t.set d Γ0 = some Γ1 ∧ ∃ r, fe Γ1 = .ok r ∧ share r = .ok y) → lcL t tYesF fe Γ0 ds = .ok (List.replicate ds.length y)
  | [], _ => rfl
  | d :: ds, h => by
    obtain ⟨Γ1, e1, r, e2, e3⟩ := h d List.mem_cons_self
    have hs : lcStep t tYesF fe Γ0 d = .ok [y] := by
      unfold lcStep
      rw [e1]
      simp [tYesF, e2, e3]
    unfold lcL
    rw [hs, lcL_same fun d' hd => h d' (List.mem_cons_of_mem _ hd)]
    rfl
theorem bools_rep (n : Nat) : D.bools (List.replicate n (.b true)) = some (List.replicate n true) := by
  induction n with
  | zero => rfl
  | succ n ih => rw [List.replicate_succ, D.bools, ih]; rfl
theorem kAll_rep (n : Nat) : kAll (.fr (.l (List.replicate n (.b true)))) = .ok (.sh (.b true)) := by
  unfold kAll
  simp only [Rv.d, D.seq?, bools_rep]
  simp [okb]
theorem lcRes_ok {ys : List D} (h : ys.length ≤ 16777216) : lcRes (.ok ys) = .ok (.fr (.l ys)) := by
  unfold lcRes
  exact if_pos h
theorem lcRes_rep {n : Nat} {y : D} (h : n ≤ 16777216) : lcRes (.ok (List.replicate n y)) = .ok (.fr (.l (List.replicate n y))) := lcRes_ok (by rw [List.length_replicate]; exact h)
theorem lcL_map {t : Tg} {fe : FE} {Γ0 : Env'} : ∀ {ds : List D} {g : D → D}, (∀ d ∈ ds, ∃ Γ1, t.set d Γ0 = some Γ1 ∧ ∃ r, fe Γ1 = .ok r ∧ share r = .ok (g d)) → lcL t tYesF fe Γ0 ds = .ok (ds.map g)
  | [], _, _ => rfl
  | d :: ds, g, h => by
    obtain ⟨Γ1, e1, r, e2, e3⟩ := h d List.mem_cons_self
    have hs : lcStep t tYesF fe Γ0 d = .ok [g d] := by
      unfold lcStep
      rw [e1]
      simp [tYesF, e2, e3]
    unfold lcL
    rw [hs, lcL_map fun d' hd => h d' (List.mem_cons_of_mem _ hd)]
    rfl
end
end Ly
end

section
set_option maxRecDepth 100000
namespace Ly
open PySem PySem.Spec L2
open PyProof.Rows hiding St
variable [Tb]
inductive Src where
  | p (i : Nat) | d (i : Nat) | k (i : Nat)
def gp {α : Type} : List Src → List α → List α → List α → List α
  | [], _, _, _ => []
  | .p i :: r, us, ds, ws => us[i]?.toList ++ gp r us ds ws
  | .d i :: r, us, ds, ws => ds[i]?.toList ++ gp r us ds ws
  | .k i :: r, us, ds, ws => ws[i]?.toList ++ gp r us ds ws
theorem vals_at {xs : List V} {us : List Value} (i : Nat) (r : Vals xs us) : Vals xs[i]?.toList us[i]?.toList := by
  cases h : xs[i]? with
  | none =>
    have : us[i]? = none := by rw [List.getElem?_eq_none_iff] at h ⊢; rw [← r.length]; exact h
    rw [this]; exact .nil
  | some x =>
    obtain ⟨u, hu, rx⟩ := r.get h
    rw [hu]; exact .cons rx .nil
theorem reps_at {K : PySem.W.Frag} {G : Hp} {xs : List V} {ds : List D} (i : Nat) (r : Reps K G xs ds) : Reps K G xs[i]?.toList ds[i]?.toList := by
  cases h : xs[i]? with
  | none =>
    have : ds[i]? = none := by rw [List.getElem?_eq_none_iff] at h ⊢; rw [← r.length]; exact h
    rw [this]; exact .nil
  | some x =>
    obtain ⟨u, hu, rx⟩ := r.get h
    rw [hu]; exact .cons rx .nil
theorem gp_vals : ∀ (l : List Src) {vs ds zs : List V} {us its ws : List Value}, Vals vs us → Vals ds its → Vals zs ws → Vals (gp l vs ds zs) (gp l us its ws)
  | [], _, _, _, _, _, _, _, _, _ => .nil
  | .p i :: l, _, _, _, _, _, _, a, b, c => (vals_at i a).append (gp_vals l a b c)
  | .d i :: l, _, _, _, _, _, _, a, b, c => (vals_at i b).append (gp_vals l a b c)
  | .k i :: l, _, _, _, _, _, _, a, b, c => (vals_at i c).append (gp_vals l a b c)
theorem gp_reps {K : PySem.W.Frag} {G : Hp} : ∀ (l : List Src) {vs ds zs : List V} {us its ws : List D}, Reps K G vs us → Reps K G ds its → Reps K G zs ws → Reps K G (gp l vs ds zs) (gp l us its ws)
  | [], _, _, _, _, _, _, _, _, _ => .nil
  | .p i :: l, _, _, _, _, _, _, a, b, c => (reps_at i a).append (gp_reps l a b c)
  | .d i :: l, _, _, _, _, _, _, a, b, c => (reps_at i b).append (gp_reps l a b c)
  | .k i :: l, _, _, _, _, _, _, a, b, c => (reps_at i c).append (gp_reps l a b c)
abbrev FnD (K : PySem.W.Frag) (x : Str) (st : Stmt) (dvs : List V) (f : Addr) (fd : FuncData) : Prop := FunD K x x (defArgs st) (defBody st) (defScope st) dvs [] f fd
theorem fnD_mk {K : PySem.W.Frag} {x : Str} {st : Stmt} {f T : Addr} {oc oc2 : Value} {od od2 an : Option Addr} {osl sl2 : Array (Option Value)} {kV doc pm cdv ct : Value} {dvs : List V} {its : List Value} {n : Nat}
    (l : K.lookup f = some ⟨oc, od, .func (PySem.W.fnOf x x (defArgs st) (defBody st) (defScope st) (.ref T) kV doc pm an cdv ct), osl⟩) (c : PySem.W.codeIn K cdv x = true) (k : PySem.W.keepIn K (.ref f) = true)
    (lT : K.lookup T = some ⟨oc2, od2, .seq its.toArray n, sl2⟩) (rv : Vals dvs its) (ne : dvs ≠ []) : FnD K x st dvs f (PySem.W.fnOf x x (defArgs st) (defBody st) (defScope st) (.ref T) kV doc pm an cdv ct) :=
  ⟨⟨oc, od, .ref T, kV, doc, pm, an, cdv, ct, osl, rfl, l, c, .inr ⟨ne, T, _, its, n, rfl, lT, rfl, rv⟩, .inl rfl⟩, k⟩
section
variable {P : Program} {w : World} {K : PySem.W.Frag} {mg : Str → Option Value} {base : Heap}
theorem def_fnD {x : Str} {st : Stmt} {f : Addr} {fd : FuncData} {dvs : List V} {N ps : List Str} {k n m : Nat} {body : FS} (F : FnD K x st dvs f fd) (S : FnScope N ps (defScope st))
    (hn : ps.length = n) (hN : N.length = m)
    (h : ∀ (cdv : Value) (A : Around) (outer : List Env) (s : Shared) (H G : Hp) (E : XK), Room k (A.deeper (envOfC x (defScope st) s.heap.objs.size f cdv)) →
      Cy (cxOf (L2N.CX P w) P w K mg base N x (defScope st) f cdv A outer s H E) (dLc K mg H G E) →
      PassesOwn (model P w) (A.deeper (envOfC x (defScope st) s.heap.objs.size f cdv)) (envOfC x (defScope st) s.heap.objs.size f cdv) (cxOf (L2N.CX P w) P w K mg base N x (defScope st) f cdv A outer s H E).xe →
      PSs (cxOf (L2N.CX P w) P w K mg base N x (defScope st) f cdv A outer s H E) (defBody st) (tS (dLc K mg H G E) body)) : FnOk P w K mg base (L2N.CX P w) (k + 1) f fd ps (spF K mg n (runF n m body)) := by
  refine F.ok S (fun vs H Q E hs => ?_) (fun cdv A outer s H vs Q E hr hs => ?_)
  · obtain ⟨G, ds, hl, gh, r, _⟩ := hs
    rw [r.length, hl, hn]
  · obtain ⟨G, ds, hl, gh, r, q⟩ := hs
    have cy : Cy (cxOf (L2N.CX P w) P w K mg base N x (defScope st) f cdv A outer s H E) (dLc K mg H G E) := ⟨rfl, rfl, L2N.takes_of rfl rfl rfl rfl, rfl, S.nd, hr.units⟩
    refine ⟨_, h cdv A outer s H G E hr cy (passes_of (X := cxOf (L2N.CX P w) P w K mg base N x (defScope st) f cdv A outer s H E) rfl), G, _, start_env gh r, ?_⟩
    have gr : ∀ {G' H' : Hp}, EndOk (dLc K mg H G E) G' H' → Gr G H G' H' := fun e => ⟨e.bh, e.g0, e.gh, e.gf, fun _ => e.gt, fun _ => e.tb⟩
    unfold runF at q
    rw [if_pos hl] at q
    rw [hN, hl]
    cases eb : body (ds.map (fun d => some (.sh d)) ++ List.replicate (m - n) none) with
    | nx Γ' => rw [eb] at q; exact fun σ' G' H' he s => q .non G' H' (gr he.end) .n
    | rt rv =>
      rw [eb] at q
      cases rv with
      | sh d => exact fun v G' H' he s hv _ => q v G' H' (gr he) hv
      | fr d => exact fun v G' H' he s ⟨p, e, bp, gp, o⟩ _ => by subst e; exact q p G' H' (gr he) bp gp o
      | bo d => exact fun v G' H' he s hv hn => absurd rfl (hn d)
    | ex e Γ' => rw [eb] at q; exact fun σ' G' H' he s C d hC hd => q G' H' (gr he.end) C d hC hd
    | bk Γ' => rw [eb] at q; exact q.elim
    | ct Γ' => rw [eb] at q; exact q.elim
    | bad => rw [eb] at q; exact q.elim
theorem bindsD {x : Str} {st : Stmt} {f : Addr} {fd : FuncData} {dvs : List V} {ps : List Str} (F : FnD K x st dvs f fd) (ne : dvs ≠ [])
    (h : ∀ (T : Addr) (kV doc pm : Value) (an : Option Addr) (cdv ct : Value) (us its : List Value), us.length = ps.length → its.length = dvs.length →
      ∃ k, bindArgs (PySem.W.fnOf x x (defArgs st) (defBody st) (defScope st) (.ref T) kV doc pm an cdv ct) ⟨us, []⟩ = seqItems? (.ref T) >>= k ∧ k (some its.toArray) = pure (ps.zip us)) : Binds K fd ps [] := by
  obtain ⟨ds, hv, hb⟩ := FunD.binds1 (ps := ps) F ps.length dvs.length ne (by omega) (fun T kV doc pm an cdv ct us its e1 e2 => by
    rw [List.drop_eq_nil_of_le (Nat.le_of_eq e2), List.append_nil]; exact h T kV doc pm an cdv ct us its e1 e2)
  rw [List.drop_length] at hv
  cases hv
  exact hb
structure DefOkK (P : Program) (w : World) (K : PySem.W.Frag) (mg : Str → Option Value) (base : Heap) (k : Nat) (x : Str) (n : Nat) (ks : List Str) (l : List Src) (dds : List D) (nn : Nat) (F : List D → Re Rv) : Prop where
  ex : ∃ (f : Addr) (fd : FuncData) (ps : List Str) (its : List Value) (dvs : List V), mg x = some (.ref f) ∧ PySem.W.keepIn K (.ref f) = true ∧ KBn K fd ps n ks (fun us ws => gp l us its ws) (fun vs zs => gp l vs dvs zs) ∧
    (∀ G, Reps K G dvs dds) ∧ FnOk P w K mg base (L2N.CX P w) k f fd ps (spF K mg nn F)
theorem defK_mk {x : Str} {st : Stmt} {f : Addr} {fd : FuncData} {dvs : List V} {ps : List Str} {k : Nat} {nn : Nat} {dds : List D} {F : List D → Re Rv} (n : Nat) (ks : List Str) (l : List Src) (hm : mg x = some (.ref f)) (D1 : FnD K x st dvs f fd) (ne : dvs ≠ [])
    (hd : ∀ G, Reps K G dvs dds) (ok : FnOk P w K mg base (L2N.CX P w) k f fd ps (spF K mg nn F))
    (h : ∀ (T : Addr) (kV doc pm : Value) (an : Option Addr) (cdv ct : Value) (us its ws : List Value), us.length = n → its.length = dvs.length → ws.length = ks.length →
      ∃ k, bindArgs (PySem.W.fnOf x x (defArgs st) (defBody st) (defScope st) (.ref T) kV doc pm an cdv ct) ⟨us, ks.zip ws⟩ = seqItems? (.ref T) >>= k ∧ k (some its.toArray) = pure (ps.zip (gp l us its ws))) : DefOkK P w K mg base k x n ks l dds nn F := by
  obtain ⟨its, hb⟩ := FunD.kbindsD D1 n ks (fun {α} => gp (α := α) l) ne (gp_vals l) h
  exact ⟨f, fd, ps, its, dvs, hm, D1.kp, hb, hd, ok⟩
end
def eCallK (n m : Nat) (l : List Src) (dds : List D) (nn : Nat) (F : List D → Re Rv) (fa fk : FA) : FE := fun Γ => (fa Γ).bind fun ds => (fk Γ).bind fun zs => if ds.length = n ∧ zs.length = m ∧ (gp l ds dds zs).length = nn then (match F (gp l ds dds zs) with
  | .ok (.bo _) => .bad | r => r) else .bad
section
variable {X : Cx} {c : LC} {a b e : Expr} {es : List Expr} {f g h : FE} {fa fk : FA} {pos kpos : Pos} {kws : List Keyword} {nm : Option Str}
theorem PK.weak {t t' : TA} (ha : PK X kws t) (w : ∀ σ H Q, t' σ H Q → t σ H Q) : PK X kws t' := ⟨fun pos pins s σ H Q I q => ha.run pos pins s σ H Q I (w σ H Q q)⟩
theorem rk_nil : PK X [] (tA c aNil) := PK.weak pk_nil fun σ H Q ⟨G, Γ, he, q⟩ => q [] G H (.refl he.gh) .nil
theorem rk_cons (ha : PE X e (tE c f)) (hr : PK X kws (tA c fa)) : PK X (⟨nm, e, kpos⟩ :: kws) (tA c (aCons f fa)) := by
  refine PK.weak (pk_cons ha hr) ?_
  rintro σ H Q ⟨G, Γ, he, q⟩
  refine tE_bind0 (P := fun r => PostA c r σ G H Q) he (fun h => h) (fun x h => h) q fun r v G1 H1 _ g1 v1 fr1 q1 => ?_
  cases e1 : share r with
  | bad => rw [e1] at q1; exact q1.elim
  | ex x => rw [e1] at q1; cases r <;> cases e1
  | ok d =>
    rw [e1] at q1
    obtain ⟨G2, g2, s2, rp⟩ := v1.share g1 fr1 e1
    refine tAA (he.mono g2) (PostA.later g2 q1) fun ds vs G3 H3 _ g3 rs he3 q3 => ?_
    exact q3 _ G3 H3 (.refl he3.gh) (.cons (rp.mono g3.gg) rs)
theorem run_fnNS {CX : CXT} {k n : Nat} {f : Addr} {fd : FuncData} {ps ks : List Str} {sp : Sp} {E : St → XK} {g : List Value → List Value → List Value} {gV : List V → List V → List V} {pins : List (Addr × Obj)} {σ : St} {H : Hp} {s : Shared} {Q : VK} {us ws : List Value} {vs zs : List V}
    (F : FnOk X.prog X.w X.K X.mg X.base CX k f fd ps sp) (hr : Room k X.A) (hb : KBn X.K fd ps n ks g gV) (hx : PassesAt CX X σ (E σ)) (I : Inv X pins σ H s) (r : Vals vs us) (rz : Vals zs ws) (l1 : vs.length = n) (l2 : zs.length = ks.length) (h : sp (gV vs zs) H Q (E σ)) :
    wpAny (model X.prog X.w) X.A (call (.ref f) us (ks.zip ws)) (EP X pins σ Q) X.xe s :=
  wpAny_call (codeAny_mono (F.run X.A X.stack s H ⟨us, ks.zip ws⟩ (g us ws) (gV vs zs) Q (E σ) hr I.env0 (hb.to s us ws I.kIn (r.length.symm.trans l1) (rz.length.symm.trans l2)) (hb.rel r rz) h) fun o s' hq => by
    cases o with
    | error e => exact hx pins H s e s' I hq
    | ok fl => cases fl with
      | ret u => exact I.after hq
      | next => exact False.elim hq
      | brk => exact False.elim hq
      | cont => exact False.elim hq)
def tCallNS (n m : Nat) (sp : Sp) (gV : List V → List V → List V) (E : St → XK) (t tk : TA) : TE := fun σ H Q => t σ H fun vs H1 => tk σ H1 fun zs H2 => vs.length = n ∧ zs.length = m ∧ sp (gV vs zs) H2 Q (E σ)
theorem pe_callNS {CX : CXT} {k n : Nat} {f : Addr} {fd : FuncData} {ps ks : List Str} {sp : Sp} {E : St → XK} {x : Str} {p : Pos} {t tk : TA} {g : List Value → List Value → List Value} {gV : List V → List V → List V}
    (F : FnOk X.prog X.w X.K X.mg X.base CX k f fd ps sp) (hr : Room k X.A) (hg : Gl X x) (hm : X.mg x = some (.ref f)) (hk : PySem.W.keepIn X.K (.ref f) = true) (hb : KBn X.K fd ps n ks g gV) (hx : ∀ σ, PassesAt CX X σ (E σ)) (ha : PA X (e :: es) t) (hkw : PK X kws tk)
    (hdb : (x == ("__debug__" : Str)) = false) (he : starEach (e :: es) X.env = (false, eval e X.env) :: starEach es X.env) (hpl : ((backTo pos (starEach (e :: es) X.env)).any (·.1) || (backToKw pos (keywordEach kws X.env)).any (·.1.isNone)) = false)
    (hall : (backToKw pos (keywordEach kws X.env)).all (·.1.isSome) = true) (hks : (backToKw pos (keywordEach kws X.env)).filterMap (·.1) = ks) : PE X (.Call (.Name x p) (e :: es) kws pos) (tCallNS n ks.length sp gV E t tk) :=
  ⟨fun pins s σ H Q I h => wpAny_Call_Name_kw (ld_glob I hg hm (PySem.W.callWith_KW (h₀ := X.base) I.ok.mod.kin hk hall (thn (ha.run pos pins s σ H _ I h) fun us s1 ⟨vs, H1, I1, r, q⟩ => thn (hkw.run pos pins s1 σ H1 _ I1 q) fun ws s2 ⟨zs, H2, I2, rz, l1, l2, q2⟩ => ⟨I2.kIn, by
    rw [hks]; exact run_fnNS F hr hb (hx σ) I2 r rz l1 l2 q2⟩) hpl he) hdb)⟩
theorem re_callK (cy : Cy X c) {x : Str} {p : Pos} {k n nn : Nat} {ks : List Str} {l : List Src} {dds : List D} {F : List D → Re Rv} (h : DefOkK X.prog X.w X.K X.mg X.base k x n ks l dds nn F) (hr : Room k X.A) (hg : Gl X x) (ha : PA X (e :: es) (tA c fa)) (hkw : PK X kws (tA c fk))
    (hdb : (x == ("__debug__" : Str)) = false := by decide) (he : starEach (e :: es) X.env = (false, eval e X.env) :: starEach es X.env := by rfl) (hpl : ((backTo pos (starEach (e :: es) X.env)).any (·.1) || (backToKw pos (keywordEach kws X.env)).any (·.1.isNone)) = false := by rfl)
    (hall : (backToKw pos (keywordEach kws X.env)).all (·.1.isSome) = true := by rfl) (hks : (backToKw pos (keywordEach kws X.env)).filterMap (·.1) = ks := by rfl) :
    PE X (.Call (.Name x p) (e :: es) kws pos) (tE c (eCallK n ks.length l dds nn F fa fk)) := by
  obtain ⟨f, fd, ps, its, dvs, h1, h2, h3, hd, h4⟩ := h.ex
  refine PE.weak (pe_callNS (E := WE c.W) h4 hr hg h1 h2 h3 (fun σ => L2N.passAt cy.tk σ) ha hkw hdb he hpl hall hks) ?_
  rintro σ H Q ⟨G, Γ, he, q⟩
  refine tAE he q fun ds vs G1 H1 _ g1 rs he1 q1 => ?_
  refine tAE he1 q1 fun zs us G2 H2 _ g2 rz he2 q2 => ?_
  split at q2
  · rename_i hn
    have rs2 := rs.mono g2.gg
    refine ⟨by rw [rs2.length]; exact hn.1, by rw [rz.length]; exact hn.2.1, G2, gp l ds dds zs, hn.2.2, he2.ok0, by rw [cy.K]; exact gp_reps l rs2 (by rw [← cy.K]; exact hd G2) rz, ?_⟩
    cases eF : F (gp l ds dds zs) with
    | bad => rw [eF] at q2; exact q2
    | ex x => rw [eF] at q2; exact fun G' H' g' C d hC hd => q2 G' H' g' C d (by rw [← cy.mg]; exact hC) (by rw [← cy.K]; exact hd)
    | ok r =>
      rw [eF] at q2
      cases r with
      | sh d => exact fun v G' H' g' rv => q2 v G' H' g' (by rw [cy.K] at rv; exact rv) True.intro
      | fr d => exact fun p' G' H' g' hp gp o => q2 (.ref p') G' H' g' ⟨p', rfl, Kept.non he2.bh hp, gp, by rw [cy.K] at o; exact o⟩ ⟨p', rfl, hp⟩
      | bo d => exact q2
  · exact q2.elim
end
end Ly
end

section
set_option maxRecDepth 100000
namespace Ly
open PySem PySem.Spec L2
open PyProof.Rows hiding St
variable [Tb]
def D.plain : D → Bool
  | .n => true | .b _ => true | .i _ => true | .s _ => true | _ => false
theorem Rep.plain {K : PySem.W.Frag} {G G' : Hp} {v : V} {d : D} (h : Rep K G v d) (e : d.plain = true) : Rep K G' v d := by
  cases h with
  | n => exact .n
  | b x => exact .b x
  | i x => exact .i x
  | s x => exact .s x
  | _ => cases e
def eFz (i : Nat) (f : FE) : FE := fun Γ => match f (frz i Γ) with
  | .ok (.sh d) => if d.plain = true then .ok (.sh d) else .bad
  | .ex x => (match x.fs with | none => .ex x | some _ => .bad)
  | _ => .bad
section
variable {X : Cx} {c : LC} {a : Expr} {f : FE}
theorem re_fz (i : Nat) (ha : PE X a (tE c f)) : PE X a (tE c (eFz i f)) := by
  refine PE.weak ha ?_
  rintro σ H Q ⟨G, Γ, he, q⟩
  obtain ⟨G2, sm, he2⟩ := he.frz i
  refine ⟨G2, frz i Γ, he2, ?_⟩
  unfold eFz at q
  cases e : f (frz i Γ) with
  | bad => rw [e] at q; exact q
  | ex x =>
    rw [e] at q
    obtain ⟨cl, fs⟩ := x
    cases fs with
    | some _ => exact q.elim
    | none => exact fun G' H' g C d hC hd => q G H' (g.less sm) C d hC hd
  | ok r =>
    rw [e] at q
    cases r with
    | fr d => exact q.elim
    | bo d => exact q.elim
    | sh d =>
      dsimp only at q
      split at q
      · rename_i hp
        exact fun v G' H' g rv fr => q v G H' (g.less sm) (Rep.plain rv hp) fr
      · exact q.elim
end
section
variable {Γ : Env'} {f : FE} {i : Nat}
@[simp] theorem eFz_at : eFz i f Γ = match f (frz i Γ) with
  | .ok (.sh d) => if d.plain = true then .ok (.sh d) else .bad
  | .ex x => (match x.fs with | none => .ex x | some _ => .bad)
  | _ => .bad := rfl
theorem itR3_of {f g h : FE} {i j k : Int} (e1 : f Γ = .ok (.sh (.i i))) (e2 : g Γ = .ok (.sh (.i j))) (e3 : h Γ = .ok (.sh (.i k))) (hk : k ≠ 0 ∧ k.natAbs < 1073741824 ∧ Builtin.Range.small i j k = true) :
    itR3 f g h Γ = .ok (rg3 i k (Builtin.Range.rangeSize i j k).toNat) := by
  unfold itR3
  rw [e1, e2, e3]
  exact if_pos hk
theorem deq_refl {d : D} (h : dok 12 d = true) : deq d d = true := PySem.SeqAt.eqv_refl d.py (dok_py 12 d h).1
theorem kNe_refl {d : D} {r s : Rv} (h : dok 12 d = true) (e1 : r.d = d) (e2 : s.d = d) : kNe r s = .ok (.sh (.b false)) := by
  unfold kNe
  rw [e1, e2, if_pos ⟨h, h⟩, deq_refl h]
  rfl
theorem kEq_refl {d : D} {r s : Rv} (h : dok 12 d = true) (e1 : r.d = d) (e2 : s.d = d) : kEq r s = .ok (.sh (.b true)) := by
  unfold kEq
  rw [e1, e2, if_pos ⟨h, h⟩, deq_refl h]
  rfl
@[simp] theorem plain_b {x : Bool} : (D.b x).plain = true := rfl
@[simp] theorem plain_i {x : Int} : (D.i x).plain = true := rfl
end
end Ly
end

section
set_option maxRecDepth 100000
namespace Ly
open PySem PySem.Spec L2
open PyProof.Rows hiding St
variable [Tb]
def dPairs : List (FE × FE) → Env' → Re (List (Key × D))
  | [], _ => .ok []
  | p :: r, Γ => (p.1 Γ).bind fun x => match x.d.key? with
    | none => .bad
    | some k => (p.2 Γ).bind fun y => (share y).bind fun d => (dPairs r Γ).bind fun ps => .ok ((k, d) :: ps)
def mergeD (m : List Key × List D) (ps : List (Key × D)) : List Key × List D := ps.foldl (fun m p => kput m.1 m.2 p.1 p.2) m
def eDisp (fs : List (FE × FE)) : FE := fun Γ => (dPairs fs Γ).bind fun ps => if ps.length ≤ 15 then .ok (.fr (.dk (mergeD ([], []) ps).1 (mergeD ([], []) ps).2)) else .bad
inductive PRep (K : PySem.W.Frag) (G : Hp) : List (Key × V) → List (Key × D) → Prop
  | nil : PRep K G [] []
  | cons {k : Key} {v : V} {d : D} {a : List (Key × V)} {b : List (Key × D)} : Rep K G v d → PRep K G a b → PRep K G ((k, v) :: a) ((k, d) :: b)
theorem PRep.length {K : PySem.W.Frag} {G : Hp} : ∀ {a : List (Key × V)} {b : List (Key × D)}, PRep K G a b → a.length = b.length
  | _, _, .nil => rfl
  | _, _, .cons _ r => congrArg Nat.succ r.length
theorem PRep.merge {K : PySem.W.Frag} {G : Hp} : ∀ {a : List (Key × V)} {b : List (Key × D)} {kvs : List (Key × V)} {ds : List D}, PRep K G a b → Reps K G (kvs.map (·.2)) ds →
    (mergeD (kvs.map (·.1), ds) b).1 = (mergeK kvs a).map (·.1) ∧ Reps K G ((mergeK kvs a).map (·.2)) (mergeD (kvs.map (·.1), ds) b).2
  | _, _, kvs, ds, .nil, r => ⟨rfl, r⟩
  | _, _, kvs, ds, .cons (k := k) (v := v) (d := d) h t, r => by
    obtain ⟨e1, e2⟩ := kput_ok (k := k) r h
    have ih := PRep.merge (kvs := putK kvs k v) t e2
    rw [← e1] at ih
    exact ih
def PostP (c : LC) (re : Re (List (Key × D))) (σ : St) (G H : Hp) (Q : List (V × V) → Hp → Prop) : Prop := match re with
  | .ok ps => ∀ kvs G' H', Gr G H G' H' → PRep c.K G' kvs ps → Q (kvs.map fun kv => (kV kv.1, kv.2)) H'
  | .ex e => ∀ G' H', Gr G H G' H' → ExAt c (fun C d H' => c.W C d σ H') e G' H'
  | .bad => False
section
variable {X : Cx} {c : LC} {pos : Pos}
theorem PostP.later {re : Re (List (Key × D))} {σ : St} {G H G1 H1 : Hp} {Q : List (V × V) → Hp → Prop} (g : Gr G H G1 H1) (h : PostP c re σ G H Q) : PostP c re σ G1 H1 Q := by
  cases re with
  | ok ps => exact fun kvs G' H' g' r => h kvs G' H' (g.trans g') r
  | ex e => exact fun G' H' g' => h G' H' (g.trans g')
  | bad => exact h
theorem pairs_of : ∀ {fs : List (FE × FE)} {σ : St} {G H : Hp} {Γ : Env'} {Q : List (V × V) → Hp → Prop}, EnvOk c G H σ Γ → PostP c (dPairs fs Γ) σ G H Q → tPairs (fs.map fun p => (tE c p.1, tE c p.2)) σ H Q
  | [], σ, G, H, Γ, Q, he, q => q [] G H (.refl he.gh) .nil
  | p :: fs, σ, G, H, Γ, Q, he, q => by
    show tE c p.1 σ H _
    refine tE_bind (P := fun r G H => PostP c r σ G H Q) he (fun _ _ z => z) (fun _ _ _ z => z) (fun _ _ _ _ _ g z => PostP.later g z) q fun rx x G1 H1 _ g1 v1 fr1 he1 q1 => ?_
    cases ek : rx.d.key? with
    | none => rw [ek] at q1; exact q1.elim
    | some k =>
      rw [ek] at q1
      have ex := v1.key ek
      subst ex
      refine tE_bind0 (P := fun r => PostP c r σ G1 H1 Q) he1 (fun z => z) (fun _ z => z) q1 fun ry y G2 H2 _ g2 v2 fr2 q2 => ?_
      cases es : share ry with
      | bad => rw [es] at q2; exact q2.elim
      | ex z => rw [es] at q2; cases ry <;> cases es
      | ok d =>
        rw [es] at q2
        obtain ⟨G3, g3, s3, rp⟩ := v2.share g2 fr2 es
        have he3 := he1.mono g3
        have q3 : PostP c ((dPairs fs Γ).bind fun ps => .ok ((k, d) :: ps)) σ G3 H2 Q := PostP.later g3 q2
        refine pairs_of (fs := fs) he3 ?_
        cases ed : dPairs fs Γ with
        | bad => rw [ed] at q3; exact q3
        | ex z => rw [ed] at q3; exact q3
        | ok ps =>
          rw [ed] at q3
          exact fun kvs G' H' g r => q3 ((k, y) :: kvs) G' H' g (.cons (rp.mono g.gg) r)
theorem re_disp {keys : List (Option Expr)} {values : List Expr} {fs : List (FE × FE)} (h : PPs X pos keys values (fs.map fun p => (tE c p.1, tE c p.2))) (hall : keys.all (·.isSome) = true := by rfl) (hl : keys.length = values.length := by rfl) (h0 : keys ≠ [] := by exact List.cons_ne_nil _ _)
    (h15 : keys.length ≤ 15 := by decide) : PE X (.Dict keys values pos) (tE c (eDisp fs)) := by
  refine PE.weak (pe_disp h hall hl h0 h15) ?_
  rintro σ H Q ⟨G, Γ, he, q⟩ p hp
  have g1 : Gr G H G (upd H p (.dK [])) := .own he.gh hp
  have gp : G p = none := he.gh.free hp
  refine pairs_of (he.mono g1) ?_
  unfold eDisp at q
  cases ed : dPairs fs Γ with
  | bad => rw [ed] at q; exact q
  | ex z => rw [ed] at q; exact fun G' H' g => q G' H' (g1.trans g)
  | ok ps =>
    rw [ed] at q
    have q : Post c (if ps.length ≤ 15 then .ok (.fr (.dk (mergeD ([], []) ps).1 (mergeD ([], []) ps).2)) else .bad) σ G H Q := q
    split at q
    · rename_i hl
      intro kvs G' H' g r
      have e := g.hh _ _ (upd_same (H := H) (a := p) (o := .dK [])) (fun _ z => by cases z)
      have gp' : G' p = none := g.keepNone gp (live_of upd_same)
      refine ⟨e, kvs, rfl, by rw [r.length]; exact hl, ?_⟩
      obtain ⟨m1, m2⟩ := r.merge (kvs := []) (ds := []) .nil
      have g2 : Gr G H G' (upd H' p (.dK (mergeK [] kvs))) := by
        exact (g1.trans g).put (.of hp) gp' e ⟨fun _ z => (by cases z), fun _ z => (by cases z)⟩
      exact q (.ref p) G' _ g2 ⟨p, rfl, Kept.free he.bh hp, gp', .dk upd_same m1 m2⟩ ⟨p, rfl, .of hp⟩
    · exact q.elim
def D.isD : D → Bool
  | .dk _ _ => true | .dt _ _ => true | _ => false
def kGet2 (x y z : Rv) : Re Rv := match dlook x.d y.d with
  | some (some d) => .ok (.sh d) | some none => (match z with | .sh d => .ok (.sh d) | _ => .bad) | none => .bad
def eGet2 (f g h : FE) : FE := fun Γ => (f Γ).bind fun x => if x.d.isD = true then (g Γ).bind fun y => (h Γ).bind fun z => kGet2 x y z else .bad
theorem re_get2 (cy : Cy X c) {o a b : Expr} {f g h : FE} {apos cpos : Pos} (ho : PE X o (tE c f)) (ha : PE X a (tE c g)) (hb : PE X b (tE c h)) (m : M2 X o "get" apos a b cpos := by exact ⟨rfl, rfl, rfl, rfl⟩) :
    PE X (.Call (.Attribute o "get" apos) [a, b] [] cpos) (tE c (eGet2 f g h)) := by
  have hu : X.A.units + 1 < cLine := Nat.lt_of_le_of_lt (Nat.add_le_add_left (by decide) _) cy.un
  refine PE.weak (pe_dget2 hu ho ha hb m) ?_
  rintro σ H Q ⟨G, Γ, he, q⟩
  refine eE he q fun rx x G1 H1 eq1 g1 v1 fr1 he1 q1 => ?_
  split at q1
  · rename_i hd
    have hx : ∃ p, x = .ref p ∧ IsD H1 p := by
      cases e : rx.d with
      | dk ks ds => obtain ⟨p, kvs, e1, h1, _⟩ := v1.dk he1.gh e; exact ⟨p, e1, .inl ⟨kvs, h1⟩⟩
      | dt ks ds => obtain ⟨p, kvs, e1, h1, _⟩ := v1.dt he1.gh e; exact ⟨p, e1, .inr ⟨kvs, h1⟩⟩
      | _ => rw [e] at hd; cases hd
    obtain ⟨p, rfl, hI⟩ := hx
    refine ⟨p, rfl, hI, ?_⟩
    refine eE he1 q1 fun ry y G2 H2 eq2 g2 v2 fr2 he2 q2 => ?_
    refine eE he2 q2 fun rz z G3 H3 eq3 g3 v3 fr3 he3 q3 => ?_
    unfold kGet2 at q3
    split at q3
    · rename_i d ed
      obtain ⟨p', ov, e1, hdg, hh⟩ := dlook_ok he3.gh ((v1.mono g2).mono g3) (v2.mono g3) ed
      cases e1
      rcases hh with ⟨_, h⟩ | ⟨w, d', h1, h2, h3⟩
      · cases h
      · cases h2
        subst h1
        exact ⟨_, hdg, post_sh he3.gh q3 h3⟩
    · rename_i ed
      obtain ⟨p', ov, e1, hdg, hh⟩ := dlook_ok he3.gh ((v1.mono g2).mono g3) (v2.mono g3) ed
      cases e1
      rcases hh with ⟨h1, _⟩ | ⟨w, d', h1, h2, h3⟩
      · subst h1
        refine ⟨_, hdg, ?_⟩
        cases rz with
        | sh d => exact post_sh he3.gh q3 v3
        | fr d => exact q3.elim
        | bo d => exact q3.elim
      · cases h2
    · exact q3.elim
  · exact q1.elim
def kIdx (x y : Rv) : Re Rv := match x.d.seq?, y.d with
  | some ds, .i k => (match D.ints ds with | some zs => (match zs.findIdx? (· == k) with | some j => oki (j : Nat) | none => .bad) | none => .bad)
  | _, _ => .bad
def eIdx (f g : FE) : FE := fun Γ => (f Γ).bind fun x => match x.d.seq? with
  | some _ => (g Γ).bind fun y => kIdx x y
  | none => .bad
theorem re_index {o a : Expr} {f g : FE} {apos cpos : Pos} (cy : Cy X c) (ho : PE X o (tE c f)) (ha : PE X a (tE c g)) (hbase : attributeBase o "index" X.env (eval o X.env) = eval o X.env := by rfl)
    (hfew : ((backTo cpos (starEach [a] X.env)).all (fun x => !x.1) && (backToKw cpos (keywordEach [] X.env)).all (fun x => x.1.isSome) && decide ([a].length + ([] : List Keyword).length + (if ([] : List Keyword).isEmpty then 0 else 1) < 30)) = true := by rfl)
    (hline : (apos.endLine == cpos.line) = true := by rfl) (hs : starEach [a] X.env = [(false, eval a X.env)] := by rfl) : PE X (.Call (.Attribute o "index" apos) [a] [] cpos) (tE c (eIdx f g)) := by
  refine PE.weak (pe_bm PySem.F.plainAttrs_list PySem.F.slot_list_index PySem.F.type_list_index mt_index ho (pa_cons ha pa_nil hs) hbase hfew hline hs) ?_
  rintro σ H Q ⟨G, Γ, he, q⟩
  refine eE he q fun rx x G1 H1 eq1 g1 v1 fr1 he1 q1 => ?_
  split at q1
  · rename_i ds0 e0
    obtain ⟨p, xs, rfl, s1, r1⟩ := v1.sql he1.gh e0
    refine ⟨.inl ⟨rfl, _, by rw [cy.K]; exact s1⟩, ?_⟩
    refine eE he1 q1 fun ry y G2 H2 eq2 g2 v2 fr2 he2 q2 => ?_
    unfold kIdx at q2
    rw [e0] at q2
    split at q2
    · rename_i ds k ed ek
      cases ed
      split at q2
      · rename_i zs ez
        split at q2
        · rename_i j ej
          obtain ⟨p', ys, e1, s2, r2⟩ := (v1.mono g2).sql he2.gh e0
          cases e1
          have ey := v2.int ek
          subst ey
          rw [D.ints_eq ez] at r2
          have e3 := r2.ints
          subst e3
          obtain ⟨hj, hp, hn⟩ := List.findIdx?_eq_some_iff_getElem.mp ej
          refine ⟨p, zs.map V.int, .int k, j, .int zs[j], rfl, rfl, by rw [cy.K]; exact s2, rfl, ?_, by simp [hj], ?_, fun m z' hm hz => ?_, post_sh he2.gh q2 (.i _)⟩
          · simp [flatV]
          · simpa [eqV] using hp
          · rw [List.getElem?_map] at hz
            cases hg : zs[m]? with
            | none => rw [hg] at hz; cases hz
            | some w =>
              rw [hg] at hz
              cases hz
              have := hn m hm
              have hw : zs[m]'(by omega) = w := by rw [List.getElem?_eq_getElem (by omega)] at hg; exact Option.some.inj hg
              rw [hw] at this
              simpa [eqV] using this
        · exact q2.elim
      · exact q2.elim
    · exact q2.elim
  · exact q1.elim
end
end Ly
end

section
set_option maxRecDepth 100000
namespace Ly
open PySem PySem.Spec L2
open PyProof.Rows hiding St
variable [Tb]
def tlook {α : Type} : List (Str × α) → Str → Option α
  | [], _ => none
  | p :: r, z => if p.1 = z then some p.2 else tlook r z
def wEnt (P : Params) : List (Str × Int) → List (Tok × Tok) → List DictEntry
  | p :: r, t :: ts => ⟨PyData.keyHash P p.1, .str p.1 t.1, .int p.2 t.2⟩ :: wEnt P r ts
  | _, _ => []
structure WDk (w : World) (K : PySem.W.Frag) (mg : Str → Option Value) (x : Str) (tbl : List (Str × Int)) : Prop where
  ex : ∃ (A : Addr) (es : Array DictEntry) (n : Nat), mg x = some (.ref A) ∧ KDict K w A es n ∧ ∀ z, ∃ r, PySem.W.nsIn K A z = some r ∧ match tlook tbl z with
    | some i => ∃ t, r = some (.int i t)
    | none => r = none
theorem wEnt_lit {P : Params} : ∀ (tbl : List (Str × Int)) (ts : List (Tok × Tok)), PySem.W.KeysLit P (wEnt P tbl ts)
  | [], [] => True.intro
  | [], _ :: _ => True.intro
  | _ :: _, [] => True.intro
  | p :: r, t :: ts => ⟨⟨p.1, t.1, rfl, rfl⟩, wEnt_lit r ts⟩
theorem isStr_str {x z : Str} {t : Tok} : (Value.str x t).isStr z = decide (x = z) := by
  show (x == z) = _
  by_cases h : x = z
  · subst h; simp
  · simp [h]
theorem wEnt_find {P : Params} (z : Str) : ∀ (tbl : List (Str × Int)) (ts : List (Tok × Tok)), ts.length = tbl.length → match tlook tbl z with
    | some i => ∃ e t, (wEnt P tbl ts).find? (fun e => e.key.isStr z) = some e ∧ e.val = .int i t
    | none => (wEnt P tbl ts).find? (fun e => e.key.isStr z) = none
  | [], [], _ => rfl
  | p :: r, t :: ts, h => by
    unfold tlook
    have ih := wEnt_find (P := P) z r ts (by simpa using h)
    by_cases e : p.1 = z
    · rw [if_pos e]
      refine ⟨⟨PyData.keyHash P p.1, .str p.1 t.1, .int p.2 t.2⟩, t.2, ?_, rfl⟩
      rw [wEnt, List.find?_cons]
      simp [isStr_str, e]
    · rw [if_neg e]
      have : (wEnt P (p :: r) (t :: ts)).find? (fun e => e.key.isStr z) = (wEnt P r ts).find? (fun e => e.key.isStr z) := by
        rw [wEnt, List.find?_cons]
        simp [isStr_str, e]
      rw [this]
      exact ih
theorem wEnt_ref {P : Params} : ∀ (tbl : List (Str × Int)) (ts : List (Tok × Tok)), (wEnt P tbl ts).any (·.refKey) = false
  | [], [] => rfl
  | [], _ :: _ => rfl
  | _ :: _, [] => rfl
  | p :: r, t :: ts => by rw [wEnt, List.any_cons, wEnt_ref r ts]; rfl
theorem wd_mk {w : World} {K : PySem.W.Frag} {mg : Str → Option Value} {x : Str} {A : Addr} {n : Nat} (tbl : List (Str × Int)) (ts : List (Tok × Tok)) (hl : ts.length = tbl.length) (hm : mg x = some (.ref A)) (hs : (A == sysModules) = false)
    (hk : K.lookup A = some ⟨.type "dict", none, .dict (wEnt w.params tbl ts).toArray n, #[]⟩) : WDk w K mg x tbl := by
  refine ⟨A, _, n, hm, ⟨hk, by simpa using wEnt_lit tbl ts, hs⟩, fun z => ?_⟩
  have hf := wEnt_find (P := w.params) z tbl ts hl
  unfold PySem.W.nsIn
  rw [hk]
  cases e : tlook tbl z with
  | some i =>
    rw [e] at hf
    obtain ⟨en, t, h1, h2⟩ := hf
    exact ⟨some en.val, by simp [h1], t, by rw [h2]⟩
  | none =>
    rw [e] at hf
    have hr := wEnt_ref (P := w.params) tbl ts
    exact ⟨none, by simp only [hf, hr]; simp, rfl⟩
def eInW (neg : Bool) (tbl : List (Str × Int)) (f : FE) : FE := fun Γ => (f Γ).bind fun x => match x.d with
  | .s z => okb (if neg then !(tlook tbl z).isSome else (tlook tbl z).isSome) | _ => .bad
def eGetW (tbl : List (Str × Int)) (f : FE) : FE := fun Γ => (f Γ).bind fun x => match x.d with
  | .s z => (match tlook tbl z with | some i => oki i | none => .bad) | _ => .bad
section
variable {X : Cx} {c : LC} {a : Expr} {f : FE} {pos p : Pos} {x : Str} {tbl : List (Str × Int)}
theorem inW_w (neg : Bool) {A : Addr} (hz : ∀ z, ∃ r, PySem.W.nsIn X.K A z = some r ∧ match tlook tbl z with
    | some i => ∃ t, r = some (.int i t)
    | none => r = none) {R2' : R2} (hR : R2' = fun x y H Q => ∃ (z : Str) (r : Option Value), x = .str z ∧ y = .ref A ∧ PySem.W.nsIn X.K A z = some r ∧ Q (.bl (if neg then !r.isSome else r.isSome)) H) : ∀ σ H Q, tE c (eInW neg tbl f) σ H Q → tOp R2' (tE c f) (tC (.ref A)) σ H Q := by
  subst hR
  rintro σ H Q ⟨G, Γ, he, q⟩
  refine eE he q fun rx v G1 H1 eq1 g1 v1 fr1 he1 q1 => ?_
  split at q1
  · rename_i z ez
    obtain ⟨r, h1, h2⟩ := hz z
    refine ⟨z, r, v1.str ez, rfl, h1, ?_⟩
    have : r.isSome = (tlook tbl z).isSome := by
      cases e : tlook tbl z with
      | some i => rw [e] at h2; obtain ⟨t, rfl⟩ := h2; rfl
      | none => rw [e] at h2; subst h2; rfl
    rw [this]
    exact post_sh he1.gh q1 (.b _)
  · exact q1.elim
theorem re_inW (T : WDk X.w X.K X.mg x tbl) (hg : Gl X x) (ha : PE X a (tE c f)) (hd : (x == ("__debug__" : Str)) = false := by decide) : PE X (.Compare a [.In] [.Name x p] pos) (tE c (eInW false tbl f)) := by
  obtain ⟨A, es, n, hm, D, hz⟩ := T.ex
  exact PE.weak (pe_cmpR (op_in_kd D) ha (pe_glob hg hm (v := .ref A) rfl hd) (by rfl)) (inW_w false hz rfl)
theorem re_notInW (T : WDk X.w X.K X.mg x tbl) (hg : Gl X x) (ha : PE X a (tE c f)) (hd : (x == ("__debug__" : Str)) = false := by decide) : PE X (.Compare a [.NotIn] [.Name x p] pos) (tE c (eInW true tbl f)) := by
  obtain ⟨A, es, n, hm, D, hz⟩ := T.ex
  exact PE.weak (pe_cmpR (op_notIn_kd D) ha (pe_glob hg hm (v := .ref A) rfl hd) (by rfl)) (inW_w true hz rfl)
theorem rt_inW (T : WDk X.w X.K X.mg x tbl) (hg : Gl X x) (ha : PE X a (tE c f)) (hd : (x == ("__debug__" : Str)) = false := by decide) : PT X (.Compare a [.In] [.Name x p] pos) (tT c (tV (eInW false tbl f))) := by
  obtain ⟨A, es, n, hm, D, hz⟩ := T.ex
  exact tV_test (pt_cmpR (op_in_kd D) ha (pe_glob hg hm (v := .ref A) rfl hd) (by rfl)) (inW_w false hz rfl)
theorem rt_notInW (T : WDk X.w X.K X.mg x tbl) (hg : Gl X x) (ha : PE X a (tE c f)) (hd : (x == ("__debug__" : Str)) = false := by decide) : PT X (.Compare a [.NotIn] [.Name x p] pos) (tT c (tV (eInW true tbl f))) := by
  obtain ⟨A, es, n, hm, D, hz⟩ := T.ex
  exact tV_test (pt_cmpR (op_notIn_kd D) ha (pe_glob hg hm (v := .ref A) rfl hd) (by rfl)) (inW_w true hz rfl)
theorem re_getW (T : WDk X.w X.K X.mg x tbl) (hg : Gl X x) (ha : PE X a (tE c f)) (hs : PlainIx a := by intro _ _; rfl) (hd : (x == ("__debug__" : Str)) = false := by decide) : PE X (.Subscript (.Name x p) a pos) (tE c (eGetW tbl f)) := by
  obtain ⟨A, es, n, hm, D, hz⟩ := T.ex
  refine PE.weak (pe_ix ix_kdict (pe_glob hg hm (v := .ref A) rfl hd) ha hs) ?_
  rintro σ H Q ⟨G, Γ, he, q⟩
  show tE c f σ H _
  refine eE he q fun rx v G1 H1 eq1 g1 v1 fr1 he1 q1 => ?_
  split at q1
  · rename_i z ez
    split at q1
    · rename_i i ei
      obtain ⟨r, h1, h2⟩ := hz z
      rw [ei] at h2
      obtain ⟨t, rfl⟩ := h2
      exact ⟨A, z, .int i, rfl, v1.str ez, ⟨es, n, _, D.at_, D.lit, h1, ⟨t, rfl⟩⟩, post_sh he1.gh q1 (.i _)⟩
    · exact q1.elim
  · exact q1.elim
end
end Ly
end

section
set_option maxRecDepth 100000
namespace Ly
open PySem PySem.Spec L2
open PyProof.Rows hiding St

abbrev Lk := List (Nat × Rv)
def lk : Nat → Lk → Option Rv
  | _, [] => none
  | i, p :: L => bif Nat.beq i p.1 then some p.2 else lk i L
theorem lk_cons {i j : Nat} {r : Rv} {L : Lk} : lk i ((j, r) :: L) = if i = j then some r else lk i L := by
  show (bif Nat.beq i j then some r else lk i L) = _
  by_cases h : i = j
  · subst h; simp
  · have : Nat.beq i j = false := by rw [← Bool.not_eq_true]; exact fun e => h (Nat.eq_of_beq_eq_true e)
    rw [if_neg h, this]; rfl
structure Ag (m : Nat) (L : Lk) (Γ : Env') : Prop where
  len : Γ.length = m
  at' : ∀ i r, lk i L = some r → Γ[i]? = some (some r)
theorem Ag.set {m : Nat} {L : Lk} {Γ : Env'} (h : Ag m L Γ) {i : Nat} (hi : i < m) (r : Rv) : Ag m ((i, r) :: L) (Γ.set i (some r)) := by
  refine ⟨by rw [List.length_set]; exact h.len, fun j s hj => ?_⟩
  rw [lk_cons] at hj
  by_cases e : j = i
  · subst e
    rw [if_pos rfl] at hj
    cases hj
    exact List.getElem?_set_self (by rw [h.len]; exact hi)
  · rw [if_neg e] at hj
    rw [List.getElem?_set_ne (Ne.symm e)]
    exact h.at' j s hj
def frzL (i : Nat) (L : Lk) : Lk := match lk i L with
  | some (.fr d) => (i, .sh d) :: L
  | _ => L
theorem Ag.frz {m : Nat} {L : Lk} {Γ : Env'} (h : Ag m L Γ) (i : Nat) : Ag m (frzL i L) (Ly.frz i Γ) := by
  unfold frzL
  split
  · rename_i d e
    have hg := h.at' i _ e
    have hi : i < m := by rw [← h.len]; exact (List.getElem?_eq_some_iff.mp hg).1
    have : Ly.frz i Γ = Γ.set i (some (.sh d)) := by unfold Ly.frz; rw [hg]
    rw [this]
    exact h.set hi _
  · rename_i hn
    refine ⟨by rw [frz_len]; exact h.len, fun j r hj => ?_⟩
    have hg := h.at' j r hj
    unfold Ly.frz
    split
    · rename_i d e
      by_cases hji : j = i
      · subst hji
        rw [hg] at e
        cases e
        exact absurd hj (hn d)
      · rw [List.getElem?_set_ne (Ne.symm hji)]; exact hg
    · exact hg
def subL (L' L : Lk) : Prop := ∀ i r, lk i L' = some r → lk i L = some r
theorem sub_n {L : Lk} : subL [] L := fun _ _ h => by cases h
theorem sub_c {L L' : Lk} {i : Nat} {r : Rv} (h : lk i L = some r) (h' : subL L' L) : subL ((i, r) :: L') L := fun j s hj => by
  rw [lk_cons] at hj
  by_cases e : j = i
  · subst e; rw [if_pos rfl] at hj; cases hj; exact h
  · rw [if_neg e] at hj; exact h' j s hj
theorem Ag.sub {m : Nat} {L L' : Lk} {Γ : Env'} (h : Ag m L Γ) (s : subL L' L) : Ag m L' Γ := ⟨h.len, fun i r e => h.at' i r (s i r e)⟩
def argL : Nat → List D → Lk
  | _, [] => []
  | k, d :: ds => (k, .sh d) :: argL (k + 1) ds
theorem argL_at : ∀ (ds : List D) (k i : Nat) (r : Rv), lk i (argL k ds) = some r → ∃ j d, i = k + j ∧ ds[j]? = some d ∧ r = .sh d
  | [], _, _, _, h => by cases h
  | d :: ds, k, i, r, h => by
    unfold argL at h
    rw [lk_cons] at h
    by_cases e : i = k
    · rw [if_pos e] at h; cases h; exact ⟨0, d, by omega, rfl, rfl⟩
    · rw [if_neg e] at h
      obtain ⟨j, d', h1, h2, h3⟩ := argL_at ds (k + 1) i r h
      exact ⟨j + 1, d', by omega, by simpa using h2, h3⟩
theorem ag_start {n m : Nat} {ds : List D} (hn : ds.length = n) (hm : n ≤ m) : Ag m (argL 0 ds) (ds.map (fun d => some (.sh d)) ++ List.replicate (m - n) none) := by
  refine ⟨by simp; omega, fun i r h => ?_⟩
  obtain ⟨j, d, h1, h2, rfl⟩ := argL_at ds 0 i r h
  have hj : j < ds.length := (List.getElem?_eq_some_iff.mp h2).1
  have : i = j := by omega
  subst this
  rw [List.getElem?_append_left (by simpa using hj), List.getElem?_map, h2]
  rfl

inductive Kd where
  | sh | fr | bo
@[simp] def Kd.v : Kd → D → Rv
  | .sh => .sh | .fr => .fr | .bo => .bo
def Kd.ok : Kd → Bool
  | .bo => false | _ => true
@[simp] theorem Kd.v_d (k : Kd) (d : D) : (k.v d).d = d := by cases k <;> rfl
theorem Kd.share {k : Kd} (h : k.ok = true) (d : D) : Ly.share (k.v d) = .ok d := by cases k <;> first | rfl | cases h
def RE1 {τ : Type} (k : Kd) (e : τ → D) (x : Re τ) (y : Re Rv) : Prop := match x with
  | .ok a => y = .ok (k.v (e a)) | .ex z => y = .ex z | .bad => True
def ER {τ : Type} (m : Nat) (L : Lk) (k : Kd) (e : τ → D) (x : Re τ) (f : FE) : Prop := ∀ Γ, Ag m L Γ → RE1 k e x (f Γ)
def RT (x y : Re Bool) : Prop := match x with
  | .ok a => y = .ok a | .ex z => y = .ex z | .bad => True
def TR (m : Nat) (L : Lk) (x : Re Bool) (f : FT) : Prop := ∀ Γ, Ag m L Γ → RT x (f Γ)
def RI1 {τ : Type} (e : τ → D) (x : Re (List τ)) (y : Re (List D)) : Prop := match x with
  | .ok a => y = .ok (a.map e) | .ex z => y = .ex z | .bad => True
def IR {τ : Type} (m : Nat) (L : Lk) (e : τ → D) (x : Re (List τ)) (f : FI) : Prop := ∀ Γ, Ag m L Γ → RI1 e x (f Γ)
def OR' (m : Nat) (L : Lk) (x : Re (Option Int)) (f : FO) : Prop := ∀ Γ, Ag m L Γ → match x with
  | .ok a => f Γ = .ok a | .ex z => f Γ = .ex z | .bad => True
section
variable {m : Nat} {L : Lk} {k k1 k2 k3 k4 k5 : Kd} {α β γ δ ε τ : Type} {e : τ → D} {ea : α → D} {eb : β → D} {ec : γ → D} {ed : δ → D} {ee : ε → D} {f g h f4 f5 : FE}
abbrev eI : Int → D := D.i
abbrev eB : Bool → D := D.b
abbrev eS : Str → D := D.s
abbrev eU : Unit → D := fun _ => D.n
abbrev eL (e : α → D) : List α → D := fun xs => .l (xs.map e)
abbrev eTu (e : α → D) : List α → D := fun xs => .t (xs.map e)
abbrev eP2 (ea : α → D) (eb : β → D) : α × β → D := fun p => .t [ea p.1, eb p.2]
abbrev eP3 (ea : α → D) (eb : β → D) (ec : γ → D) : α × β × γ → D := fun p => .t [ea p.1, eb p.2.1, ec p.2.2]
abbrev eCl : Str × List Int → D := fun c => .t (.s c.1 :: c.2.map .i)
abbrev eDk (e : α → D) : List (Int × α) → D := fun A => .dk (A.map fun p => .inl p.1) (A.map fun p => e p.2)
abbrev eDt (e : α → D) : List (List Int × α) → D := fun A => .dt (A.map fun p => p.1.map .inl) (A.map fun p => e p.2)

theorem er_sub {L' : Lk} {x : Re τ} (hs : subL L' L) (hx : ER m L' k e x f) : ER m L k e x f := fun Γ hΓ => hx Γ (hΓ.sub hs)
theorem er_v {i : Nat} {a : τ} (hl : lk i L = some (.sh (e a))) : ER m L .sh e (.ok a) (eV i) := fun Γ hΓ => by
  have := hΓ.at' i _ hl
  show eV i Γ = _
  unfold eV
  rw [this]
  rfl
theorem er_vf {i : Nat} {a : τ} (hl : lk i L = some (.fr (e a))) : ER m L .bo e (.ok a) (eV i) := fun Γ hΓ => by
  have := hΓ.at' i _ hl
  show eV i Γ = _
  unfold eV
  rw [this]
  rfl
theorem er_i {z : Int} : ER m L .sh eI (.ok z) (eC (.i z)) := fun _ _ => rfl
theorem er_b {z : Bool} : ER m L .sh eB (.ok z) (eC (.b z)) := fun _ _ => rfl
theorem er_s {z : Str} : ER m L .sh eS (.ok z) (eC (.s z)) := fun _ _ => rfl
theorem er_n : ER m L .sh eU (.ok ()) (eC .n) := fun _ _ => rfl
theorem er_1 {x : Re α} {t : α → Re τ} {o : Rv → Re Rv} (hx : ER m L k1 ea x f) (ho : ∀ a, RE1 k e (t a) (o (k1.v (ea a)))) : ER m L k e (x.bind t) (e1 o f) := fun Γ hΓ => by
  have h1 := hx Γ hΓ
  cases x with
  | ok a =>
    have h1 : f Γ = .ok _ := h1
    show RE1 k e (t a) ((f Γ).bind o)
    rw [h1]
    exact ho a
  | ex z =>
    have h1 : f Γ = .ex z := h1
    show (f Γ).bind o = .ex z
    rw [h1]; rfl
  | bad => trivial
theorem er_2 {x : Re α} {y : Re β} {t : α → β → Re τ} {o : Rv → Rv → Re Rv} (hx : ER m L k1 ea x f) (hy : ER m L k2 eb y g) (ho : ∀ a b, RE1 k e (t a b) (o (k1.v (ea a)) (k2.v (eb b)))) : ER m L k e (x.bind fun a => y.bind fun b => t a b) (e2 o f g) := fun Γ hΓ => by
  have h1 := hx Γ hΓ
  have h2 := hy Γ hΓ
  cases x with
  | ok a =>
    have h1 : f Γ = .ok _ := h1
    show RE1 k e (y.bind fun b => t a b) ((f Γ).bind fun x => (g Γ).bind fun y => o x y)
    rw [h1]
    cases y with
    | ok b =>
      have h2 : g Γ = .ok _ := h2
      show RE1 k e (t a b) ((g Γ).bind fun y => o _ y)
      rw [h2]
      exact ho a b
    | ex z =>
      have h2 : g Γ = .ex z := h2
      show ((g Γ).bind fun y => o _ y) = .ex z
      rw [h2]; rfl
    | bad => trivial
  | ex z =>
    have h1 : f Γ = .ex z := h1
    show ((f Γ).bind fun x => (g Γ).bind fun y => o x y) = .ex z
    rw [h1]; rfl
  | bad => trivial
theorem er_p1 {a : α} {z : Re τ} {o : Rv → Re Rv} (hx : ER m L k1 ea (.ok a) f) (ho : RE1 k e z (o (k1.v (ea a)))) : ER m L k e z (e1 o f) := fun Γ hΓ => by
  have h1 : f Γ = .ok _ := hx Γ hΓ
  show RE1 k e z ((f Γ).bind o)
  rw [h1]
  exact ho
theorem er_p2 {a : α} {b : β} {z : Re τ} {o : Rv → Rv → Re Rv} (hx : ER m L k1 ea (.ok a) f) (hy : ER m L k2 eb (.ok b) g) (ho : RE1 k e z (o (k1.v (ea a)) (k2.v (eb b)))) : ER m L k e z (e2 o f g) := fun Γ hΓ => by
  have h1 : f Γ = .ok _ := hx Γ hΓ
  have h2 : g Γ = .ok _ := hy Γ hΓ
  show RE1 k e z ((f Γ).bind fun x => (g Γ).bind fun y => o x y)
  rw [h1]
  show RE1 k e z ((g Γ).bind fun y => o _ y)
  rw [h2]
  exact ho
theorem er_pl {a : α} {y : Re β} {t : β → Re τ} {o : Rv → Rv → Re Rv} (hx : ER m L k1 ea (.ok a) f) (hy : ER m L k2 eb y g) (ho : ∀ b, RE1 k e (t b) (o (k1.v (ea a)) (k2.v (eb b)))) : ER m L k e (y.bind t) (e2 o f g) := fun Γ hΓ => by
  have h1 : f Γ = .ok _ := hx Γ hΓ
  have h2 := hy Γ hΓ
  show RE1 k e (y.bind t) ((f Γ).bind fun x => (g Γ).bind fun y => o x y)
  rw [h1]
  cases y with
  | ok b =>
    have h2 : g Γ = .ok _ := h2
    show RE1 k e (t b) ((g Γ).bind fun y => o _ y)
    rw [h2]
    exact ho b
  | ex z =>
    have h2 : g Γ = .ex z := h2
    show ((g Γ).bind fun y => o _ y) = .ex z
    rw [h2]; rfl
  | bad => trivial
theorem er_pr {x : Re α} {b : β} {t : α → Re τ} {o : Rv → Rv → Re Rv} (hx : ER m L k1 ea x f) (hy : ER m L k2 eb (.ok b) g) (ho : ∀ a, RE1 k e (t a) (o (k1.v (ea a)) (k2.v (eb b)))) : ER m L k e (x.bind t) (e2 o f g) := fun Γ hΓ => by
  have h1 := hx Γ hΓ
  have h2 : g Γ = .ok _ := hy Γ hΓ
  cases x with
  | ok a =>
    have h1 : f Γ = .ok _ := h1
    show RE1 k e (t a) ((f Γ).bind fun x => (g Γ).bind fun y => o x y)
    rw [h1]
    show RE1 k e (t a) ((g Γ).bind fun y => o _ y)
    rw [h2]
    exact ho a
  | ex z =>
    have h1 : f Γ = .ex z := h1
    show ((f Γ).bind fun x => (g Γ).bind fun y => o x y) = .ex z
    rw [h1]; rfl
  | bad => trivial

theorem o_add {a b : Int} : RE1 .sh eI (.ok (a + b)) (kAdd (k1.v (eI a)) (k2.v (eI b))) := by cases k1 <;> cases k2 <;> rfl
theorem o_sub {a b : Int} : RE1 .sh eI (.ok (a - b)) (kSub (k1.v (eI a)) (k2.v (eI b))) := by cases k1 <;> cases k2 <;> rfl
theorem o_neg {a : Int} : RE1 .sh eI (.ok (-a)) (kNeg (k1.v (eI a))) := by cases k1 <;> rfl
@[irreducible] def mulT (a b : Int) : Re Int := if (-(2 ^ 64) < a ∧ a < 2 ^ 64) ∨ (-(2 ^ 64) < b ∧ b < 2 ^ 64) then .ok (a * b) else .bad
theorem o_mul {a b : Int} : RE1 .sh eI (mulT a b) (kMul (k1.v (eI a)) (k2.v (eI b))) := by
  have : kMul (k1.v (eI a)) (k2.v (eI b)) = if (-(2 ^ 64) < a ∧ a < 2 ^ 64) ∨ (-(2 ^ 64) < b ∧ b < 2 ^ 64) then oki (a * b) else .bad := by cases k1 <;> cases k2 <;> rfl
  rw [this]
  unfold mulT
  split
  · rfl
  · trivial
theorem mulT_l {a b : Int} (h : -(2 ^ 64) < a ∧ a < 2 ^ 64) : mulT a b = .ok (a * b) := by unfold mulT; exact if_pos (.inl h)
theorem mulT_r {a b : Int} (h : -(2 ^ 64) < b ∧ b < 2 ^ 64) : mulT a b = .ok (a * b) := by unfold mulT; exact if_pos (.inr h)
theorem o_mul_l {a b : Int} (h : -(2 ^ 64) < a ∧ a < 2 ^ 64) : RE1 .sh eI (.ok (a * b)) (kMul (k1.v (eI a)) (k2.v (eI b))) := by rw [← mulT_l h]; exact o_mul
theorem o_mul_r {a b : Int} (h : -(2 ^ 64) < b ∧ b < 2 ^ 64) : RE1 .sh eI (.ok (a * b)) (kMul (k1.v (eI a)) (k2.v (eI b))) := by rw [← mulT_r h]; exact o_mul
def modT (a b : Int) : Re Int := if 0 < b then .ok (a % b) else .bad
theorem modT_ok {a b : Int} (h : 0 < b) : modT a b = .ok (a % b) := if_pos h
theorem o_modT {a b : Int} : RE1 .sh eI (modT a b) (kMod (k1.v (eI a)) (k2.v (eI b))) := by
  have : kMod (k1.v (eI a)) (k2.v (eI b)) = if 0 < b then oki (a % b) else .bad := by cases k1 <;> cases k2 <;> rfl
  rw [this]
  unfold modT
  split
  · rfl
  · trivial
theorem o_mod {a b : Int} (h : 0 < b) : RE1 .sh eI (.ok (a % b)) (kMod (k1.v (eI a)) (k2.v (eI b))) := by rw [← modT_ok h]; exact o_modT
@[irreducible] def divT (a b : Int) : Re Int := if 0 < b ∧ b < 1073741824 then .ok (a / b) else .bad
theorem divT_ok {a b : Int} (h : 0 < b ∧ b < 1073741824) : divT a b = .ok (a / b) := by unfold divT; exact if_pos h
theorem o_divT {a b : Int} : RE1 .sh eI (divT a b) (kDiv (k1.v (eI a)) (k2.v (eI b))) := by
  have : kDiv (k1.v (eI a)) (k2.v (eI b)) = if 0 < b ∧ b < 1073741824 then oki (a / b) else .bad := by cases k1 <;> cases k2 <;> rfl
  rw [this]
  unfold divT
  split
  · rfl
  · trivial
theorem o_div {a b : Int} (h : 0 < b ∧ b < 1073741824) : RE1 .sh eI (.ok (a / b)) (kDiv (k1.v (eI a)) (k2.v (eI b))) := by rw [← divT_ok h]; exact o_divT
theorem o_pow {a b : Int} (h : 0 ≤ b ∧ b ≤ 1000000 ∧ a.natAbs < 2 ^ 64) : RE1 .sh eI (.ok (a ^ b.toNat)) (kPow (k1.v (eI a)) (k2.v (eI b))) := by
  have : kPow (k1.v (eI a)) (k2.v (eI b)) = if 0 ≤ b ∧ b ≤ 1000000 ∧ a.natAbs < 2 ^ 64 then oki (a ^ b.toNat) else .bad := by cases k1 <;> cases k2 <;> rfl
  rw [this, if_pos h]
  rfl
theorem o_lt {a b : Int} : RE1 .sh eB (.ok (decide (a < b))) (kLt (k1.v (eI a)) (k2.v (eI b))) := by cases k1 <;> cases k2 <;> rfl
theorem o_le {a b : Int} : RE1 .sh eB (.ok (decide (a ≤ b))) (kLe (k1.v (eI a)) (k2.v (eI b))) := by cases k1 <;> cases k2 <;> rfl
theorem o_gt {a b : Int} : RE1 .sh eB (.ok (decide (b < a))) (kGt (k1.v (eI a)) (k2.v (eI b))) := by cases k1 <;> cases k2 <;> rfl
theorem o_ge {a b : Int} : RE1 .sh eB (.ok (decide (b ≤ a))) (kGe (k1.v (eI a)) (k2.v (eI b))) := by cases k1 <;> cases k2 <;> rfl
structure EqOk (n : Nat) (e : α → D) : Prop where
  ok : ∀ a, dok n (e a) = true
  eq : ∀ a b, deq (e a) (e b) = true ↔ a = b
theorem eqI (n : Nat) : EqOk n eI := ⟨fun _ => by cases n <;> rfl, fun a b => by
  show (a == b) = true ↔ _
  simp⟩
theorem eqv_pys : ∀ (xs ys : List α) {n : Nat} (h : EqOk n ea), PyData.eqvAll (D.pys (xs.map ea)) (D.pys (ys.map ea)) = true ↔ xs = ys
  | [], [], _, _ => by simp [D.pys, PyData.eqvAll]
  | [], _ :: _, _, _ => by simp [D.pys, PyData.eqvAll]
  | _ :: _, [], _, _ => by simp [D.pys, PyData.eqvAll]
  | x :: xs, y :: ys, _, h => by
    rw [List.map_cons, List.map_cons, D.pys, D.pys, PyData.eqvAll, Bool.and_eq_true, eqv_pys xs ys h]
    have := h.eq x y
    unfold deq at this
    rw [this]
    simp

theorem eqL {n : Nat} (h : EqOk n ea) : EqOk (n + 1) (eL ea) := ⟨fun a => by
    show (a.map ea).all (dok n) = true
    simp only [List.all_eq_true]
    intro x hx
    obtain ⟨y, _, rfl⟩ := List.mem_map.mp hx
    exact h.ok y, fun a b => by
    show PyData.eqv (D.py (.l (a.map ea))) (D.py (.l (b.map ea))) = true ↔ _
    rw [D.py, D.py, PyData.eqv]
    exact eqv_pys a b h⟩
theorem eqT {n : Nat} (h : EqOk n ea) : EqOk (n + 1) (eTu ea) := ⟨fun a => by
    show (a.map ea).all (dok n) = true
    simp only [List.all_eq_true]
    intro x hx
    obtain ⟨y, _, rfl⟩ := List.mem_map.mp hx
    exact h.ok y, fun a b => by
    show PyData.eqv (D.py (.t (a.map ea))) (D.py (.t (b.map ea))) = true ↔ _
    rw [D.py, D.py, PyData.eqv]
    exact eqv_pys a b h⟩
theorem eqP2 {n : Nat} (h1 : EqOk n ea) (h2 : EqOk n eb) : EqOk (n + 1) (eP2 ea eb) := ⟨fun a => by
    show [ea a.1, eb a.2].all (dok n) = true
    simp [h1.ok, h2.ok], fun a b => by
    have e1 := h1.eq a.1 b.1
    have e2 := h2.eq a.2 b.2
    unfold deq at e1 e2
    show PyData.eqv (D.py (.t [ea a.1, eb a.2])) (D.py (.t [ea b.1, eb b.2])) = true ↔ _
    rw [D.py, D.py, PyData.eqv, D.pys, D.pys, D.pys, D.pys, D.pys, D.pys, PyData.eqvAll, PyData.eqvAll, PyData.eqvAll, Bool.and_eq_true, Bool.and_eq_true, e1, e2]
    constructor
    · rintro ⟨h1, h2, _⟩; exact Prod.ext h1 h2
    · rintro rfl; exact ⟨rfl, rfl, rfl⟩⟩
theorem eqB (n : Nat) : EqOk n eB := ⟨fun _ => by cases n <;> rfl, fun a b => by cases a <;> cases b <;> simp [deq, D.py, PyData.eqv]⟩
theorem o_eq [DecidableEq α] (h : EqOk 12 ea) {a b : α} : RE1 .sh eB (.ok (decide (a = b))) (kEq (k1.v (ea a)) (k2.v (ea b))) := by
  show kEq _ _ = .ok (.sh (.b (decide (a = b))))
  unfold kEq
  rw [Kd.v_d, Kd.v_d, if_pos ⟨h.ok a, h.ok b⟩]
  show okb (deq (ea a) (ea b)) = _
  have := h.eq a b
  by_cases hab : a = b
  · rw [this.mpr hab, decide_eq_true hab]; rfl
  · have : deq (ea a) (ea b) = false := by rw [← Bool.not_eq_true]; exact fun e => hab (this.mp e)
    rw [this, decide_eq_false hab]; rfl
theorem o_ne [DecidableEq α] (h : EqOk 12 ea) {a b : α} : RE1 .sh eB (.ok (!decide (a = b))) (kNe (k1.v (ea a)) (k2.v (ea b))) := by
  show kNe _ _ = .ok (.sh (.b (!decide (a = b))))
  unfold kNe
  rw [Kd.v_d, Kd.v_d, if_pos ⟨h.ok a, h.ok b⟩]
  show okb (!deq (ea a) (ea b)) = _
  have := h.eq a b
  by_cases hab : a = b
  · rw [this.mpr hab, decide_eq_true hab]; rfl
  · have : deq (ea a) (ea b) = false := by rw [← Bool.not_eq_true]; exact fun e => hab (this.mp e)
    rw [this, decide_eq_false hab]; rfl
theorem dok_s {n : Nat} {x : Str} : dok n (.s x) = PyData.strOk x := by cases n <;> rfl
theorem deq_s {x y : Str} : deq (.s x) (.s y) = decide (x = y) := by
  show (x == y) = _
  by_cases h : x = y
  · subst h; simp
  · simp [h]
@[irreducible] def eqsT (a b : Str) : Re Bool := if PyData.strOk a = true ∧ PyData.strOk b = true then .ok (decide (a = b)) else .bad
theorem o_eqs {a b : Str} : RE1 .sh eB (eqsT a b) (kEq (k1.v (eS a)) (k2.v (eS b))) := by
  unfold eqsT
  split
  · rename_i h
    show kEq _ _ = _
    unfold kEq
    rw [Kd.v_d, Kd.v_d, if_pos ⟨by rw [dok_s]; exact h.1, by rw [dok_s]; exact h.2⟩, deq_s]
    rfl
  · trivial
theorem eqsT_ok {a b : Str} (h1 : PyData.strOk a = true) (h2 : PyData.strOk b = true) : eqsT a b = .ok (decide (a = b)) := by unfold eqsT; exact if_pos ⟨h1, h2⟩
@[irreducible] def nesT (a b : Str) : Re Bool := if PyData.strOk a = true ∧ PyData.strOk b = true then .ok (!decide (a = b)) else .bad
theorem o_nes {a b : Str} : RE1 .sh eB (nesT a b) (kNe (k1.v (eS a)) (k2.v (eS b))) := by
  unfold nesT
  split
  · rename_i h
    show kNe _ _ = _
    unfold kNe
    rw [Kd.v_d, Kd.v_d, if_pos ⟨by rw [dok_s]; exact h.1, by rw [dok_s]; exact h.2⟩, deq_s]
    rfl
  · trivial
def eqqT [DecidableEq α] (a b : α) : Re Bool := if a = b then .ok true else .bad
def neqT [DecidableEq α] (a b : α) : Re Bool := if a = b then .ok false else .bad
theorem any_deq [DecidableEq α] {n : Nat} (h : EqOk n ea) (a : α) (xs : List α) : ((xs.map ea).any fun z => deq z (ea a)) = decide (a ∈ xs) := by
  induction xs with
  | nil => rfl
  | cons x xs ih =>
    rw [List.map_cons, List.any_cons, ih]
    have := h.eq x a
    by_cases hx : x = a
    · subst hx; rw [this.mpr rfl]; simp
    · have h0 : deq (ea x) (ea a) = false := by rw [← Bool.not_eq_true]; exact fun e => hx (this.mp e)
      rw [h0]
      have : ¬ a = x := fun e => hx e.symm
      simp [this]
theorem o_in [DecidableEq α] (h : EqOk 11 ea) (h' : EqOk 12 ea) {neg : Bool} {a : α} {xs : List α} : RE1 .sh eB (.ok (if neg then !decide (a ∈ xs) else decide (a ∈ xs))) (kIn neg (k1.v (ea a)) (k2.v (eL ea xs))) := by
  show kIn _ _ _ = _
  unfold kIn inD
  rw [Kd.v_d, Kd.v_d]
  dsimp only
  rw [if_pos ⟨h'.ok a, (eqL h).ok xs⟩]
  dsimp only
  rw [any_deq h]
  rfl
@[irreducible] def insT (neg : Bool) (a : Str) (xs : List Str) : Re Bool := if PyData.strOk a = true ∧ xs.all PyData.strOk = true then .ok (if neg then !decide (a ∈ xs) else decide (a ∈ xs)) else .bad
theorem any_deqs (a : Str) (xs : List Str) : ((xs.map eS).any fun z => deq z (eS a)) = decide (a ∈ xs) := by
  induction xs with
  | nil => rfl
  | cons x xs ih =>
    rw [List.map_cons, List.any_cons, ih, deq_s]
    by_cases hx : x = a
    · subst hx; simp
    · have : ¬ a = x := fun e => hx e.symm
      simp [this, hx]
theorem o_ins {neg : Bool} {a : Str} {xs : List Str} : RE1 .sh eB (insT neg a xs) (kIn neg (k1.v (eS a)) (k2.v (eL eS xs))) := by
  unfold insT
  split
  · rename_i h
    show kIn _ _ _ = _
    unfold kIn inD
    rw [Kd.v_d, Kd.v_d]
    dsimp only
    have h2 : dok 12 (.l (xs.map eS)) = true := by
      show (xs.map eS).all (dok 11) = true
      have := h.2
      simp only [List.all_eq_true] at this ⊢
      intro x hx
      obtain ⟨y, hy, rfl⟩ := List.mem_map.mp hx
      rw [dok_s]; exact this y hy
    rw [if_pos ⟨by rw [dok_s]; exact h.1, h2⟩]
    dsimp only
    rw [any_deqs]
    rfl
  · trivial
def alook {κ : Type} [DecidableEq κ] : List (κ × α) → κ → Option α
  | [], _ => none
  | p :: A, k => if p.1 = k then some p.2 else alook A k
def aput {κ : Type} [DecidableEq κ] (A : List (κ × α)) (k : κ) (v : α) : List (κ × α) :=
  if k ∈ A.map (·.1) then A.map fun p => if p.1 = k then (p.1, v) else p else A ++ [(k, v)]
theorem kget_map {κ κ' : Type} [DecidableEq κ] [DecidableEq κ'] {c : κ → κ'} (hc : ∀ a b, c a = c b → a = b) (A : List (κ × α)) (k : κ) : kget (A.map fun p => c p.1) (A.map fun p => ea p.2) (c k) = (alook A k).map ea := by
  induction A with
  | nil => rfl
  | cons p A ih =>
    rw [List.map_cons, List.map_cons, kget, alook, ih]
    by_cases h : p.1 = k
    · rw [if_pos h, if_pos (by rw [h])]; rfl
    · rw [if_neg h, if_neg fun e => h (hc _ _ e)]
theorem kput_map {κ κ' : Type} [DecidableEq κ] [DecidableEq κ'] {c : κ → κ'} (hc : ∀ a b, c a = c b → a = b) (A : List (κ × α)) (k : κ) (v : α) : kput (A.map fun p => c p.1) (A.map fun p => ea p.2) (c k) (ea v) = ((aput A k v).map fun p => c p.1, (aput A k v).map fun p => ea p.2) := by
  have hm : c k ∈ (A.map fun p => c p.1) ↔ k ∈ A.map (·.1) := by
    simp only [List.mem_map]
    constructor
    · rintro ⟨p, h1, h2⟩; exact ⟨p, h1, hc _ _ h2⟩
    · rintro ⟨p, h1, h2⟩; exact ⟨p, h1, by rw [h2]⟩
  unfold kput aput
  by_cases h : k ∈ A.map (·.1)
  · rw [if_pos h, if_pos (hm.mpr h)]
    refine Prod.ext ?_ ?_
    · show _ = List.map _ (List.map _ A)
      rw [List.map_map]
      apply List.map_congr_left
      intro p _
      show _ = c (if p.1 = k then (p.1, v) else p).1
      split <;> rfl
    · show List.map _ (List.zip _ _) = List.map _ (List.map _ A)
      rw [List.map_map, List.zip_map', List.map_map]
      apply List.map_congr_left
      intro p _
      show (if c p.1 = c k then ea v else ea p.2) = ea (if p.1 = k then (p.1, v) else p).2
      by_cases h2 : p.1 = k
      · rw [if_pos h2, if_pos (by rw [h2])]
      · rw [if_neg h2, if_neg fun e => h2 (hc _ _ e)]
  · rw [if_neg h, if_neg fun e => h (hm.mp e)]
    simp
theorem inl_inj : ∀ a b : Int, (Sum.inl a : Key) = .inl b → a = b := fun _ _ h => Sum.inl.inj h
theorem o_inD {neg : Bool} {a : Int} {A : List (Int × α)} : RE1 .sh eB (.ok (if neg then !(alook A a).isSome else (alook A a).isSome)) (kIn neg (k1.v (eI a)) (k2.v (eDk ea A))) := by
  show kIn _ _ _ = _
  unfold kIn inD
  rw [Kd.v_d, Kd.v_d]
  dsimp only [dlook, D.key?, Option.map_some]
  rw [kget_map (ea := ea) inl_inj A a]
  cases alook A a <;> rfl
def dgetT {κ : Type} [DecidableEq κ] (A : List (κ × α)) (a : κ) : Re α := match alook A a with
  | some v => .ok v | none => .bad
theorem o_dget {a : Int} {A : List (Int × α)} : RE1 .sh ea (dgetT A a) (kDget (k1.v (eDk ea A)) (k2.v (eI a))) := by
  unfold dgetT
  split
  · rename_i v hv
    show kDget _ _ = _
    unfold kDget
    rw [Kd.v_d, Kd.v_d]
    dsimp only [dlook, D.key?, Option.map_some]
    rw [kget_map (ea := ea) inl_inj A a, hv]
    rfl
  · trivial
def ixT (xs : List α) (i : Int) : Re α := match atI xs i with
  | some a => .ok a | none => .bad
theorem atI_map (xs : List α) (i : Int) : atI (xs.map ea) i = (atI xs i).map ea := by
  unfold atI
  rw [List.length_map]
  cases ixN xs.length i with
  | none => rfl
  | some j => simp
theorem o_ix {xs : List α} {i : Int} : RE1 .sh ea (ixT xs i) (kIx (k1.v (eL ea xs)) (k2.v (eI i))) := by
  have : kIx (k1.v (eL ea xs)) (k2.v (eI i)) = ixR (xs.map ea) i := by cases k1 <;> cases k2 <;> rfl
  rw [this]
  unfold ixT ixR
  rw [atI_map]
  cases atI xs i with
  | none => trivial
  | some a => rfl
theorem o_ixT {xs : List α} {i : Int} : RE1 .sh ea (ixT xs i) (kIx (k1.v (eTu ea xs)) (k2.v (eI i))) := by
  have : kIx (k1.v (eTu ea xs)) (k2.v (eI i)) = ixR (xs.map ea) i := by cases k1 <;> cases k2 <;> rfl
  rw [this]
  unfold ixT ixR
  rw [atI_map]
  cases atI xs i with
  | none => trivial
  | some a => rfl
theorem ixT_ok {xs : List α} {i : Int} {n : Nat} {a : α} (e : i = (n : Int)) (h : xs[n]? = some a) : ixT xs i = .ok a := by unfold ixT; rw [atI_is e h]
theorem kIxt {ds : List D} {i : Int} : kIx (k1.v (.t ds)) (k2.v (eI i)) = ixR ds i := by cases k1 <;> cases k2 <;> rfl
theorem o_ixP0 {p : α × β} : RE1 .sh ea (.ok p.1) (kIx (k1.v (eP2 ea eb p)) (k2.v (eI 0))) := by show kIx _ _ = _; rw [kIxt, ixR_0]; rfl
theorem o_ixP1 {p : α × β} : RE1 .sh eb (.ok p.2) (kIx (k1.v (eP2 ea eb p)) (k2.v (eI 1))) := by show kIx _ _ = _; rw [kIxt, ixR_1]; rfl
theorem o_ixQ0 {p : α × β × γ} : RE1 .sh ea (.ok p.1) (kIx (k1.v (eP3 ea eb ec p)) (k2.v (eI 0))) := by show kIx _ _ = _; rw [kIxt, ixR_0]; rfl
theorem o_ixQ1 {p : α × β × γ} : RE1 .sh eb (.ok p.2.1) (kIx (k1.v (eP3 ea eb ec p)) (k2.v (eI 1))) := by show kIx _ _ = _; rw [kIxt, ixR_1]; rfl
theorem o_ixQ2 {p : α × β × γ} : RE1 .sh ec (.ok p.2.2) (kIx (k1.v (eP3 ea eb ec p)) (k2.v (eI 2))) := by show kIx _ _ = _; rw [kIxt, ixR_2]; rfl
theorem o_cl0 {c : Str × List Int} : RE1 .sh eS (.ok c.1) (kIx (k1.v (eCl c)) (k2.v (eI 0))) := by show kIx _ _ = _; rw [kIxt, ixR_0]; rfl
def argT (c : Str × List Int) (n : Nat) : Re Int := match c.2[n]? with
  | some a => .ok a | none => .bad
theorem o_cl (n : Nat) {c : Str × List Int} {i : Int} (hi : i = ((n + 1 : Nat) : Int)) : RE1 .sh eI (argT c n) (kIx (k1.v (eCl c)) (k2.v (eI i))) := by
  unfold argT
  split
  · rename_i a h
    show kIx _ _ = _
    rw [kIxt, ixR_is hi (d := .i a) (by simp [h])]
    rfl
  · trivial
end
end Ly
end

section
set_option maxRecDepth 100000
namespace Ly
open PySem PySem.Spec L2
open PyProof.Rows hiding St
section
variable {m : Nat} {L : Lk} {k k1 k2 k3 k4 k5 : Kd} {α β γ δ ε τ : Type} {e : τ → D} {ea : α → D} {eb : β → D} {ec : γ → D} {ed : δ → D} {ee : ε → D} {f g h f4 f5 : FE} {ft gt : FT} {fa fb : FA} {fi : FI}
theorem tr_v {x : Re Bool} (hx : ER m L .sh eB x f) : TR m L x (tV f) := fun Γ hΓ => by
  have h1 := hx Γ hΓ
  cases x with
  | ok a => have h1 : f Γ = .ok (.sh (.b a)) := h1; show (f Γ).bind kB = _; rw [h1]; rfl
  | ex z => have h1 : f Γ = .ex z := h1; show (f Γ).bind kB = _; rw [h1]; rfl
  | bad => trivial
theorem tr_not {x : Re Bool} (hx : TR m L x ft) : TR m L (x.bind fun b => .ok (!b)) (tNotF ft) := fun Γ hΓ => by
  have h1 := hx Γ hΓ
  cases x with
  | ok a => have h1 : ft Γ = .ok a := h1; show (ft Γ).bind _ = _; rw [h1]; rfl
  | ex z => have h1 : ft Γ = .ex z := h1; show (ft Γ).bind _ = _; rw [h1]; rfl
  | bad => trivial
theorem tr_notp {p : Bool} (hx : TR m L (.ok p) ft) : TR m L (.ok (!p)) (tNotF ft) := tr_not hx
theorem tr_and {x y : Re Bool} (hx : TR m L x ft) (hy : TR m L y gt) : TR m L (x.bind fun b => if b = true then y else .ok false) (tAndF ft gt) := fun Γ hΓ => by
  have h1 := hx Γ hΓ
  cases x with
  | ok a =>
    have h1 : ft Γ = .ok a := h1
    show RT (if a = true then y else .ok false) ((ft Γ).bind _)
    rw [h1]
    cases a with
    | true => exact hy Γ hΓ
    | false => rfl
  | ex z => have h1 : ft Γ = .ex z := h1; show (ft Γ).bind _ = _; rw [h1]; rfl
  | bad => trivial
theorem tr_or {x y : Re Bool} (hx : TR m L x ft) (hy : TR m L y gt) : TR m L (x.bind fun b => if b = true then .ok true else y) (tOrF ft gt) := fun Γ hΓ => by
  have h1 := hx Γ hΓ
  cases x with
  | ok a =>
    have h1 : ft Γ = .ok a := h1
    show RT (if a = true then .ok true else y) ((ft Γ).bind _)
    rw [h1]
    cases a with
    | true => rfl
    | false => exact hy Γ hΓ
  | ex z => have h1 : ft Γ = .ex z := h1; show (ft Γ).bind _ = _; rw [h1]; rfl
  | bad => trivial
theorem tr_andp {p q : Bool} (hx : TR m L (.ok p) ft) (hy : TR m L (.ok q) gt) : TR m L (.ok (p && q)) (tAndF ft gt) := by
  have := tr_and hx hy
  cases p <;> exact this
theorem tr_orp {p q : Bool} (hx : TR m L (.ok p) ft) (hy : TR m L (.ok q) gt) : TR m L (.ok (p || q)) (tOrF ft gt) := by
  have := tr_or hx hy
  cases p <;> exact this
theorem er_not {x : Re Bool} (hx : ER m L .sh eB x f) : ER m L .sh eB (x.bind fun b => .ok (!b)) (eNot f) := fun Γ hΓ => by
  have h1 := hx Γ hΓ
  cases x with
  | ok a => have h1 : f Γ = .ok (.sh (.b a)) := h1; show eNot f Γ = _; unfold eNot; rw [h1]; rfl
  | ex z => have h1 : f Γ = .ex z := h1; show eNot f Γ = _; unfold eNot; rw [h1]; rfl
  | bad => trivial
theorem er_and {x y : Re Bool} (hx : ER m L .sh eB x f) (hy : ER m L .sh eB y g) : ER m L .sh eB (x.bind fun b => if b = true then y else .ok false) (eAnd f g) := fun Γ hΓ => by
  have h1 := hx Γ hΓ
  cases x with
  | ok a =>
    have h1 : f Γ = .ok (.sh (.b a)) := h1
    show RE1 .sh eB (if a = true then y else .ok false) (eAnd f g Γ)
    unfold eAnd
    rw [h1]
    cases a with
    | true => exact hy Γ hΓ
    | false => rfl
  | ex z => have h1 : f Γ = .ex z := h1; show eAnd f g Γ = _; unfold eAnd; rw [h1]; rfl
  | bad => trivial
theorem er_or {x y : Re Bool} (hx : ER m L .sh eB x f) (hy : ER m L .sh eB y g) : ER m L .sh eB (x.bind fun b => if b = true then .ok true else y) (eOr f g) := fun Γ hΓ => by
  have h1 := hx Γ hΓ
  cases x with
  | ok a =>
    have h1 : f Γ = .ok (.sh (.b a)) := h1
    show RE1 .sh eB (if a = true then .ok true else y) (eOr f g Γ)
    unfold eOr
    rw [h1]
    cases a with
    | true => rfl
    | false => exact hy Γ hΓ
  | ex z => have h1 : f Γ = .ex z := h1; show eOr f g Γ = _; unfold eOr; rw [h1]; rfl
  | bad => trivial
theorem er_notp {p : Bool} (hx : ER m L .sh eB (.ok p) f) : ER m L .sh eB (.ok (!p)) (eNot f) := er_not hx
theorem er_andp {p q : Bool} (hx : ER m L .sh eB (.ok p) f) (hy : ER m L .sh eB (.ok q) g) : ER m L .sh eB (.ok (p && q)) (eAnd f g) := by
  have := er_and hx hy
  cases p <;> exact this
theorem er_orp {p q : Bool} (hx : ER m L .sh eB (.ok p) f) (hy : ER m L .sh eB (.ok q) g) : ER m L .sh eB (.ok (p || q)) (eOr f g) := by
  have := er_or hx hy
  cases p <;> exact this
theorem er_ch {a : α} {b : β} {c : γ} {p q : Bool} {o o' : Rv → Rv → Re Rv} (hx : ER m L k1 ea (.ok a) f) (hy : ER m L k2 eb (.ok b) g) (hz : ER m L k3 ec (.ok c) h) (h1 : RE1 .sh eB (.ok p) (o (k1.v (ea a)) (k2.v (eb b)))) (h2 : RE1 .sh eB (.ok q) (o' (k2.v (eb b)) (k3.v (ec c)))) :
    ER m L .sh eB (.ok (p && q)) (eCh o o' f g h) := fun Γ hΓ => by
  have e1 : f Γ = .ok _ := hx Γ hΓ
  have e2 : g Γ = .ok _ := hy Γ hΓ
  have e3 : h Γ = .ok _ := hz Γ hΓ
  have h1 : o _ _ = .ok (.sh (.b p)) := h1
  have h2 : o' _ _ = .ok (.sh (.b q)) := h2
  show eCh o o' f g h Γ = _
  unfold eCh
  rw [e1, Re.bind_ok, e2, Re.bind_ok, h1, Re.bind_ok]
  cases p with
  | true => dsimp only; rw [e3, Re.bind_ok, h2]; rfl
  | false => rfl
theorem er_chm {a : α} {b : β} {p : Bool} {y : Re γ} {t : γ → Re Bool} {o o' : Rv → Rv → Re Rv} (hx : ER m L k1 ea (.ok a) f) (hy : ER m L k2 eb (.ok b) g) (hz : ER m L k3 ec y h) (h1 : RE1 .sh eB (.ok p) (o (k1.v (ea a)) (k2.v (eb b)))) (h2 : ∀ c, RE1 .sh eB (t c) (o' (k2.v (eb b)) (k3.v (ec c)))) :
    ER m L .sh eB (if p = true then y.bind t else .ok false) (eCh o o' f g h) := fun Γ hΓ => by
  have e1 : f Γ = .ok _ := hx Γ hΓ
  have e2 : g Γ = .ok _ := hy Γ hΓ
  have e3 := hz Γ hΓ
  have h1 : o _ _ = .ok (.sh (.b p)) := h1
  show RE1 _ _ _ (eCh o o' f g h Γ)
  unfold eCh
  rw [e1, Re.bind_ok, e2, Re.bind_ok, h1, Re.bind_ok]
  cases p with
  | true =>
    dsimp only
    rw [if_pos rfl]
    cases y with
    | ok c => have e3 : h Γ = .ok _ := e3; rw [e3]; exact h2 c
    | ex z => have e3 : h Γ = .ex z := e3; rw [e3]; rfl
    | bad => trivial
  | false => rfl
theorem er_chb {x : Re α} {z : Re Bool} {F : FE} (hx : ER m L k1 ea x f) {G : Rv → Env' → Re Rv} (hF : ∀ Γ, F Γ = (f Γ).bind fun r => G r Γ) {t : α → Re Bool} (ht : ∀ a, ER m L .sh eB (t a) (fun Γ => G (k1.v (ea a)) Γ)) : ER m L .sh eB (x.bind t) F := fun Γ hΓ => by
  have e1 := hx Γ hΓ
  rw [hF]
  cases x with
  | ok a => have e1 : f Γ = .ok _ := e1; rw [e1]; exact ht a Γ hΓ
  | ex z => have e1 : f Γ = .ex z := e1; rw [e1]; rfl
  | bad => trivial
theorem er_if {x : Re Bool} {y z : Re τ} (hx : TR m L x ft) (hy : ER m L k e y f) (hz : ER m L k e z g) : ER m L k e (x.bind fun b => if b = true then y else z) (eIf ft f g) := fun Γ hΓ => by
  have h1 := hx Γ hΓ
  cases x with
  | ok a =>
    have h1 : ft Γ = .ok a := h1
    show RE1 k e (if a = true then y else z) ((ft Γ).bind _)
    rw [h1]
    cases a with
    | true => exact hy Γ hΓ
    | false => exact hz Γ hΓ
  | ex w => have h1 : ft Γ = .ex w := h1; show (ft Γ).bind _ = _; rw [h1]; rfl
  | bad => trivial
theorem er_ifp {p : Bool} {a b : τ} (hx : TR m L (.ok p) ft) (hy : ER m L k e (.ok a) f) (hz : ER m L k e (.ok b) g) : ER m L k e (.ok (if p = true then a else b)) (eIf ft f g) := by
  have := er_if hx hy hz
  cases p <;> exact this

def LR (m : Nat) (L : Lk) (e : τ → D) (x : Re (List τ)) (fa : FA) : Prop := ∀ Γ, Ag m L Γ → match x with
  | .ok as => fa Γ = .ok (as.map e) | .ex z => fa Γ = .ex z | .bad => True
theorem lr_n : LR m L e (.ok []) aNil := fun _ _ => rfl
theorem lr_cp {a : τ} {as : List τ} (hk : k1.ok = true) (hx : ER m L k1 e (.ok a) f) (hy : LR m L e (.ok as) fa) : LR m L e (.ok (a :: as)) (aCons f fa) := fun Γ hΓ => by
  have h1 : f Γ = .ok _ := hx Γ hΓ
  have h2 : fa Γ = .ok _ := hy Γ hΓ
  show aCons f fa Γ = _
  rw [aCons_at, h1, Re.bind_ok, Kd.share hk, Re.bind_ok, h2]
  rfl
theorem lr_c {x : Re τ} {y : Re (List τ)} (hk : k1.ok = true) (hx : ER m L k1 e x f) (hy : LR m L e y fa) : LR m L e (x.bind fun a => y.bind fun as => .ok (a :: as)) (aCons f fa) := fun Γ hΓ => by
  have h1 := hx Γ hΓ
  have h2 := hy Γ hΓ
  cases x with
  | ok a =>
    have h1 : f Γ = .ok _ := h1
    simp only [aCons_at, h1, Re.bind_ok, Kd.share hk]
    cases y with
    | ok as => have h2 : fa Γ = .ok _ := h2; simp only [h2]; rfl
    | ex z => have h2 : fa Γ = .ex z := h2; simp only [h2]; rfl
    | bad => trivial
  | ex z => have h1 : f Γ = .ex z := h1; rw [aCons_at, h1]; rfl
  | bad => trivial
@[irreducible] def lcP (ys : List τ) : Re (List τ) := if ys.length ≤ 16777216 then .ok ys else .bad
theorem lcP_ok {ys : List τ} (h : ys.length ≤ 16777216) : lcP ys = .ok ys := by unfold lcP; exact if_pos h
theorem er_lst {x : Re (List τ)} (hx : LR m L e x fa) : ER m L .fr (eL e) (x.bind lcP) (eLst fa) := fun Γ hΓ => by
  have h1 := hx Γ hΓ
  cases x with
  | ok as =>
    have h1 : fa Γ = .ok _ := h1
    show RE1 .fr (eL e) (lcP as) (eLst fa Γ)
    rw [eLst_at, h1, Re.bind_ok]
    unfold lcP
    by_cases hl : as.length ≤ 16777216
    · rw [if_pos hl, if_pos (by simpa using hl)]; rfl
    · rw [if_neg hl]; trivial
  | ex z => have h1 : fa Γ = .ex z := h1; show eLst fa Γ = _; rw [eLst_at, h1]; rfl
  | bad => trivial
theorem er_lstp {as : List τ} (hx : LR m L e (.ok as) fa) (hl : as.length ≤ 16777216) : ER m L .fr (eL e) (.ok as) (eLst fa) := by
  have := er_lst hx
  rw [Re.bind_ok, lcP_ok hl] at this
  exact this
theorem er_tupu {x : Re (List τ)} (hx : LR m L e x fa) : ER m L .sh (eTu e) (x.bind lcP) (eTup fa) := fun Γ hΓ => by
  have h1 := hx Γ hΓ
  cases x with
  | ok as =>
    have h1 : fa Γ = .ok _ := h1
    show RE1 .sh (eTu e) (lcP as) (eTup fa Γ)
    rw [eTup_at, h1, Re.bind_ok]
    unfold lcP
    by_cases hl : as.length ≤ 16777216
    · rw [if_pos hl, if_pos (by simpa using hl)]; rfl
    · rw [if_neg hl]; trivial
  | ex z => have h1 : fa Γ = .ex z := h1; show eTup fa Γ = _; rw [eTup_at, h1]; rfl
  | bad => trivial
theorem er_tupup {as : List τ} (hx : LR m L e (.ok as) fa) (hl : as.length ≤ 16777216) : ER m L .sh (eTu e) (.ok as) (eTup fa) := by
  have := er_tupu hx
  rw [Re.bind_ok, lcP_ok hl] at this
  exact this
theorem er_tupcl {x : Re Str} {y : Re (List Int)} (hk : k1.ok = true) (hx : ER m L k1 eS x f) (hy : LR m L eI y fa) : ER m L .sh eCl (x.bind fun w => y.bind fun as => if as.length < 16777216 then .ok (w, as) else .bad) (eTup (aCons f fa)) := fun Γ hΓ => by
  have h1 := hx Γ hΓ
  have h2 := hy Γ hΓ
  rw [eTup_at, aCons_at]
  cases x with
  | ok w =>
    have h1 : f Γ = .ok _ := h1
    simp only [h1, Re.bind_ok, Kd.share hk]
    cases y with
    | ok as =>
      have h2 : fa Γ = .ok _ := h2
      simp only [h2, Re.bind_ok]
      show RE1 .sh eCl (if as.length < 16777216 then .ok (w, as) else .bad) _
      by_cases hl : as.length < 16777216
      · rw [if_pos hl, if_pos (by simp; omega)]; rfl
      · rw [if_neg hl]; trivial
    | ex z => have h2 : fa Γ = .ex z := h2; simp only [h2]; rfl
    | bad => trivial
  | ex z => have h1 : f Γ = .ex z := h1; rw [h1]; rfl
  | bad => trivial
theorem er_tupclp {w : Str} {as : List Int} (hk : k1.ok = true) (hx : ER m L k1 eS (.ok w) f) (hy : LR m L eI (.ok as) fa) (hl : as.length < 16777216) : ER m L .sh eCl (.ok (w, as)) (eTup (aCons f fa)) := by
  have := er_tupcl hk hx hy
  simp only [Re.bind_ok, if_pos hl] at this
  exact this
theorem er_tup2 {x : Re α} {y : Re β} (hk1 : k1.ok = true) (hx : ER m L k1 ea x f) (hk2 : k2.ok = true) (hy : ER m L k2 eb y g) : ER m L .sh (eP2 ea eb) (x.bind fun a => y.bind fun b => .ok (a, b)) (eTup (aCons f (aCons g aNil))) := fun Γ hΓ => by
  have h1 := hx Γ hΓ
  have h2 := hy Γ hΓ
  rw [eTup_at, aCons_at]
  cases x with
  | ok a =>
    have h1 : f Γ = .ok _ := h1
    simp only [h1, Re.bind_ok, Kd.share hk1, aCons_at]
    cases y with
    | ok b => have h2 : g Γ = .ok _ := h2; simp only [h2, Re.bind_ok, Kd.share hk2]; rfl
    | ex z => have h2 : g Γ = .ex z := h2; simp only [h2]; rfl
    | bad => trivial
  | ex z => have h1 : f Γ = .ex z := h1; rw [h1]; rfl
  | bad => trivial
theorem er_tup3 {x : Re α} {y : Re β} {z : Re γ} (hk1 : k1.ok = true) (hx : ER m L k1 ea x f) (hk2 : k2.ok = true) (hy : ER m L k2 eb y g) (hk3 : k3.ok = true) (hz : ER m L k3 ec z h) :
    ER m L .sh (eP3 ea eb ec) (x.bind fun a => y.bind fun b => z.bind fun c => .ok (a, b, c)) (eTup (aCons f (aCons g (aCons h aNil)))) := fun Γ hΓ => by
  have h1 := hx Γ hΓ
  have h2 := hy Γ hΓ
  have h3 := hz Γ hΓ
  rw [eTup_at, aCons_at]
  cases x with
  | ok a =>
    have h1 : f Γ = .ok _ := h1
    simp only [h1, Re.bind_ok, Kd.share hk1, aCons_at]
    cases y with
    | ok b =>
      have h2 : g Γ = .ok _ := h2
      simp only [h2, Re.bind_ok, Kd.share hk2, aCons_at]
      cases z with
      | ok c => have h3 : h Γ = .ok _ := h3; simp only [h3, Re.bind_ok, Kd.share hk3]; rfl
      | ex w => have h3 : h Γ = .ex w := h3; rw [h3]; rfl
      | bad => trivial
    | ex w => have h2 : g Γ = .ex w := h2; rw [h2]; rfl
    | bad => trivial
  | ex w => have h1 : f Γ = .ex w := h1; rw [h1]; rfl
  | bad => trivial

theorem or_n : OR' m L (.ok none) oNo := fun _ _ => rfl
theorem or_i {x : Re Int} (hx : ER m L .sh eI x f) : OR' m L (x.bind fun a => .ok (some a)) (oIs f) := fun Γ hΓ => by
  have h1 := hx Γ hΓ
  cases x with
  | ok a => have h1 : f Γ = .ok _ := h1; show oIs f Γ = _; rw [oIs_at, h1]; rfl
  | ex z => have h1 : f Γ = .ex z := h1; show oIs f Γ = _; rw [oIs_at, h1]; rfl
  | bad => trivial
theorem er_sl {x : Re α} {lo hi : Re (Option Int)} {fl fh : FO} {t : α → Option Int → Option Int → Re τ} (hx : ER m L k1 ea x f) (hl : OR' m L lo fl) (hh : OR' m L hi fh) (ho : ∀ a l u, RE1 k e (t a l u) (kSl (k1.v (ea a)) l u)) :
    ER m L k e (x.bind fun a => lo.bind fun l => hi.bind fun u => t a l u) (eSl f fl fh) := fun Γ hΓ => by
  have h1 := hx Γ hΓ
  have h2 := hl Γ hΓ
  have h3 := hh Γ hΓ
  rw [eSl_at]
  cases x with
  | ok a =>
    have h1 : f Γ = .ok _ := h1
    rw [h1, Re.bind_ok]
    cases lo with
    | ok l =>
      have h2 : fl Γ = .ok _ := h2
      rw [h2, Re.bind_ok]
      cases hi with
      | ok u => have h3 : fh Γ = .ok _ := h3; rw [h3]; exact ho a l u
      | ex z => have h3 : fh Γ = .ex z := h3; rw [h3]; rfl
      | bad => trivial
    | ex z => have h2 : fl Γ = .ex z := h2; rw [h2]; rfl
    | bad => trivial
  | ex z => have h1 : f Γ = .ex z := h1; rw [h1]; rfl
  | bad => trivial
theorem o_slL {xs : List α} {lo hi : Option Int} : RE1 .fr (eL ea) (.ok (cut xs lo hi)) (kSl (k1.v (eL ea xs)) lo hi) := by
  show kSl _ _ _ = .ok (.fr (.l ((cut xs lo hi).map ea)))
  rw [← cut_map]
  cases k1 <;> rfl
theorem o_slT {xs : List α} {lo hi : Option Int} : RE1 .sh (eTu ea) (.ok (cut xs lo hi)) (kSl (k1.v (eTu ea xs)) lo hi) := by
  show kSl _ _ _ = .ok (.sh (.t ((cut xs lo hi).map ea)))
  rw [← cut_map]
  cases k1 <;> rfl
theorem kSlt {ds : List D} {lo hi : Option Int} : kSl (k1.v (.t ds)) lo hi = .ok (.sh (.t (cut ds lo hi))) := by cases k1 <;> rfl
def clFromT (c : Str × List Int) (l u : Option Int) : Re (List Int) := match l, u with
  | some i, none => if 1 ≤ i then .ok (c.2.drop (i - 1).toNat) else .bad
  | _, _ => .bad
def clToT (c : Str × List Int) (l u : Option Int) : Re (Str × List Int) := match l, u with
  | none, some i => if 1 ≤ i then .ok (c.1, c.2.take (i - 1).toNat) else .bad
  | _, _ => .bad
theorem o_clFrom {c : Str × List Int} {lo hi : Option Int} : RE1 .sh (eTu eI) (clFromT c lo hi) (kSl (k1.v (eCl c)) lo hi) := by
  unfold clFromT
  split
  · rename_i i
    split
    · rename_i hi
      show kSl _ _ _ = _
      rw [kSlt]
      congr 3
      obtain ⟨n, rfl⟩ : ∃ n : Nat, i = ((n + 1 : Nat) : Int) := ⟨(i - 1).toNat, by omega⟩
      have en : (((n + 1 : Nat) : Int) - 1).toNat = n := by omega
      rw [en]
      by_cases hl : n + 1 ≤ (D.s c.1 :: c.2.map D.i).length
      · rw [cut_from hl, List.drop_succ_cons, List.map_drop]
      · have e1 : HT.sIx (D.s c.1 :: c.2.map D.i).length (D.s c.1 :: c.2.map D.i).length none = (D.s c.1 :: c.2.map D.i).length := rfl
        have e2 : HT.sIx (D.s c.1 :: c.2.map D.i).length 0 (some ((n + 1 : Nat) : Int)) = (D.s c.1 :: c.2.map D.i).length := by simp only [HT.sIx]; split <;> omega
        simp only [List.length_cons, List.length_map] at hl
        have e3 : cut (D.s c.1 :: c.2.map D.i) (some ((n + 1 : Nat) : Int)) none = [] := by
          unfold cut
          rw [e1, e2, Nat.sub_self, List.take_zero]
        rw [e3, List.drop_eq_nil_of_le (by omega)]
        rfl
    · trivial
  · trivial
theorem o_clTo {c : Str × List Int} {lo hi : Option Int} : RE1 .sh eCl (clToT c lo hi) (kSl (k1.v (eCl c)) lo hi) := by
  unfold clToT
  split
  · rename_i i
    split
    · rename_i hi
      show kSl _ _ _ = _
      rw [kSlt]
      congr 3
      obtain ⟨n, rfl⟩ : ∃ n : Nat, i = ((n + 1 : Nat) : Int) := ⟨(i - 1).toNat, by omega⟩
      have en : (((n + 1 : Nat) : Int) - 1).toNat = n := by omega
      rw [en]
      by_cases hl : n + 1 ≤ (D.s c.1 :: c.2.map D.i).length
      · rw [cut_to hl, List.take_succ_cons, List.map_take]
      · have e1 : HT.sIx (D.s c.1 :: c.2.map D.i).length 0 none = 0 := rfl
        have e2 : HT.sIx (D.s c.1 :: c.2.map D.i).length (D.s c.1 :: c.2.map D.i).length (some ((n + 1 : Nat) : Int)) = (D.s c.1 :: c.2.map D.i).length := by simp only [HT.sIx]; split <;> omega
        simp only [List.length_cons, List.length_map] at hl
        have e3 : cut (D.s c.1 :: c.2.map D.i) none (some ((n + 1 : Nat) : Int)) = D.s c.1 :: c.2.map D.i := by
          unfold cut
          rw [e1, e2, Nat.sub_zero, List.drop_zero, List.take_length]
        rw [e3, List.take_of_length_le (by omega)]
    · trivial
  · trivial
@[irreducible] def catT (xs ys : List α) : Re (List α) := if xs.length + ys.length ≤ 16777216 then .ok (xs ++ ys) else .bad
theorem catT_ok {xs ys : List α} (h : xs.length + ys.length ≤ 16777216) : catT xs ys = .ok (xs ++ ys) := by unfold catT; exact if_pos h
theorem o_addL {xs ys : List α} : RE1 .fr (eL ea) (catT xs ys) (kAdd (k1.v (eL ea xs)) (k2.v (eL ea ys))) := by
  have : kAdd (k1.v (eL ea xs)) (k2.v (eL ea ys)) = if (xs.map ea).length + (ys.map ea).length ≤ sizeLine then .ok (.fr (.l (xs.map ea ++ ys.map ea))) else .bad := by cases k1 <;> cases k2 <;> rfl
  rw [this, sizeLine_eq]
  unfold catT
  split
  · rename_i h
    rw [if_pos (by simpa using h), ← List.map_append]; rfl
  · trivial
theorem o_addT {xs ys : List α} : RE1 .sh (eTu ea) (catT xs ys) (kAdd (k1.v (eTu ea xs)) (k2.v (eTu ea ys))) := by
  have : kAdd (k1.v (eTu ea xs)) (k2.v (eTu ea ys)) = if (xs.map ea).length + (ys.map ea).length ≤ sizeLine then .ok (.sh (.t (xs.map ea ++ ys.map ea))) else .bad := by cases k1 <;> cases k2 <;> rfl
  rw [this, sizeLine_eq]
  unfold catT
  split
  · rename_i h
    rw [if_pos (by simpa using h), ← List.map_append]; rfl
  · trivial
@[irreducible] def addclT (c : Str × List Int) (ys : List Int) : Re (Str × List Int) := if c.2.length + ys.length < 16777216 then .ok (c.1, c.2 ++ ys) else .bad
theorem o_addcl {c : Str × List Int} {ys : List Int} : RE1 .sh eCl (addclT c ys) (kAdd (k1.v (eCl c)) (k2.v (eTu eI ys))) := by
  have : kAdd (k1.v (eCl c)) (k2.v (eTu eI ys)) = if (D.s c.1 :: c.2.map D.i).length + (ys.map eI).length ≤ sizeLine then .ok (.sh (.t ((D.s c.1 :: c.2.map D.i) ++ ys.map eI))) else .bad := by cases k1 <;> cases k2 <;> rfl
  rw [this, sizeLine_eq]
  unfold addclT
  split
  · rename_i h
    rw [if_pos (by simp; omega)]
    show Re.ok (Rv.sh (D.t _)) = .ok (.sh (.t (.s c.1 :: (c.2 ++ ys).map .i)))
    rw [List.map_append]; rfl
  · trivial
@[irreducible] def addsT (a b : Str) : Re Str := if a.length + b.length ≤ sizeLine then .ok (a ++ b) else .bad
theorem o_adds {a b : Str} : RE1 .sh eS (addsT a b) (kAdd (k1.v (eS a)) (k2.v (eS b))) := by
  have : kAdd (k1.v (eS a)) (k2.v (eS b)) = if a.length + b.length ≤ sizeLine then .ok (.sh (.s (a ++ b))) else .bad := by cases k1 <;> cases k2 <;> rfl
  rw [this]
  unfold addsT
  split
  · rfl
  · trivial
@[irreducible] def repT (xs : List α) (n : Int) : Re (List α) := if -(2 ^ 63) ≤ n ∧ n < 2 ^ 63 ∧ xs.length * n.toNat ≤ 16777216 then .ok (List.replicate n.toNat xs).flatten else .bad
theorem o_rep {xs : List α} {n : Int} : RE1 .fr (eL ea) (repT xs n) (kMul (k1.v (eL ea xs)) (k2.v (eI n))) := by
  have : kMul (k1.v (eL ea xs)) (k2.v (eI n)) = if -(2 ^ 63) ≤ n ∧ n < 2 ^ 63 ∧ (xs.map ea).length * n.toNat ≤ sizeLine then .ok (.fr (.l (List.replicate n.toNat (xs.map ea)).flatten)) else .bad := by cases k1 <;> cases k2 <;> rfl
  rw [this, sizeLine_eq]
  unfold repT
  split
  · rename_i h
    rw [if_pos (by simpa using h)]
    show Re.ok (Rv.fr (D.l _)) = .ok (.fr (.l (List.map ea _)))
    rw [List.map_flatten, List.map_replicate]
  · trivial
theorem o_rev {xs : List α} : RE1 .fr (eL ea) (.ok xs.reverse) (kRev (k1.v (eL ea xs))) := by
  show _ = Re.ok (Rv.fr (D.l (List.map ea xs.reverse)))
  rw [List.map_reverse]
  cases k1 <;> rfl
theorem o_lenL {xs : List α} : RE1 .sh eI (.ok (xs.length : Int)) (kLen (k1.v (eL ea xs))) := by
  have : kLen (k1.v (eL ea xs)) = oki ((xs.map ea).length : Nat) := by cases k1 <;> rfl
  rw [this, List.length_map]; rfl
theorem o_lenT {xs : List α} : RE1 .sh eI (.ok (xs.length : Int)) (kLen (k1.v (eTu ea xs))) := by
  have : kLen (k1.v (eTu ea xs)) = oki ((xs.map ea).length : Nat) := by cases k1 <;> rfl
  rw [this, List.length_map]; rfl
theorem o_lenCl {c : Str × List Int} : RE1 .sh eI (.ok ((c.2.length + 1 : Nat) : Int)) (kLen (k1.v (eCl c))) := by
  have : kLen (k1.v (eCl c)) = oki ((D.s c.1 :: c.2.map D.i).length : Nat) := by cases k1 <;> rfl
  rw [this, List.length_cons, List.length_map]; rfl
def absI (a : Int) : Int := if a < 0 then -a else a
theorem o_abs {a : Int} : RE1 .sh eI (.ok (absI a)) (kAbs (k1.v (eI a))) := by cases k1 <;> rfl
theorem o_max2 {a b : Int} : RE1 .sh eI (.ok (if b > a then b else a)) (kMax2 (k1.v (eI a)) (k2.v (eI b))) := by cases k1 <;> cases k2 <;> rfl
theorem o_min2 {a b : Int} : RE1 .sh eI (.ok (if b < a then b else a)) (kMin2 (k1.v (eI a)) (k2.v (eI b))) := by cases k1 <;> cases k2 <;> rfl
theorem seq_v {ds : List D} : (k1.v (.l ds)).d.seq? = some ds := by rw [Kd.v_d]; rfl
theorem o_all {bs : List Bool} : RE1 .sh eB (.ok (bs.all id)) (kAll (k1.v (eL eB bs))) := by show kAll _ = _; unfold kAll; rw [seq_v]; dsimp only; rw [D.bools_map]; rfl
theorem o_any {bs : List Bool} : RE1 .sh eB (.ok (bs.any id)) (kAny (k1.v (eL eB bs))) := by show kAny _ = _; unfold kAny; rw [seq_v]; dsimp only; rw [D.bools_map]; rfl
theorem o_sum {zs : List Int} : RE1 .sh eI (.ok zs.sum) (kSum (k1.v (eL eI zs))) := by show kSum _ = _; unfold kSum; rw [seq_v]; dsimp only; rw [D.ints_map]; rfl
def maxT (zs : List Int) : Re Int := if 0 < zs.length then .ok (maxI zs) else .bad
def minT (zs : List Int) : Re Int := if 0 < zs.length then .ok (minI zs) else .bad
theorem o_max {zs : List Int} : RE1 .sh eI (maxT zs) (kMax (k1.v (eL eI zs))) := by
  unfold maxT
  split
  · rename_i h; show kMax _ = _; unfold kMax; rw [seq_v]; dsimp only; rw [D.ints_map]; dsimp only; rw [if_pos h]; rfl
  · trivial
theorem o_min {zs : List Int} : RE1 .sh eI (minT zs) (kMin (k1.v (eL eI zs))) := by
  unfold minT
  split
  · rename_i h; show kMin _ = _; unfold kMin; rw [seq_v]; dsimp only; rw [D.ints_map]; dsimp only; rw [if_pos h]; rfl
  · trivial
theorem o_sort {zs : List Int} : RE1 .fr (eL eI) (.ok (sortI zs)) (kSort (k1.v (eL eI zs))) := by show kSort _ = _; unfold kSort; rw [seq_v]; dsimp only; rw [D.ints_map]; rfl
theorem o_intB {b : Bool} : RE1 .sh eI (.ok (if b then 1 else 0)) (kInt (k1.v (eB b))) := by cases k1 <;> rfl
theorem o_list {xs : List α} : RE1 .fr (eL ea) (.ok xs) (kList (k1.v (eL ea xs))) := by cases k1 <;> rfl
theorem o_listT {xs : List α} : RE1 .fr (eL ea) (.ok xs) (kList (k1.v (eTu ea xs))) := by cases k1 <;> rfl
theorem o_tuple {xs : List α} : RE1 .sh (eTu ea) (.ok xs) (kTuple (k1.v (eL ea xs))) := by cases k1 <;> rfl
def rangeI (a b : Int) : List Int := (List.range (b - a).toNat).map fun i => a + (i : Nat)
theorem rgD_map (a b : Int) : rgD a b = (rangeI a b).map eI := by unfold rgD rangeI; rw [List.map_map]; rfl
@[irreducible] def lrT (a b : Int) : Re (List Int) := if rgOk a b = true then .ok (rangeI a b) else .bad
theorem lrT_ok {a b : Int} (h : rgOk a b = true) : lrT a b = .ok (rangeI a b) := by unfold lrT; exact if_pos h
theorem o_lr2 {a b : Int} : RE1 .fr (eL eI) (lrT a b) (kI kLr (k1.v (eI a)) (k2.v (eI b))) := by
  have : kI kLr (k1.v (eI a)) (k2.v (eI b)) = kLr a b := by cases k1 <;> cases k2 <;> rfl
  rw [this]
  unfold lrT kLr
  split
  · show _ = Re.ok (Rv.fr (D.l ((rangeI a b).map eI))); rw [rgD_map]
  · trivial
theorem o_lr1 {b : Int} : RE1 .fr (eL eI) (lrT 0 b) (kLr1 (k1.v (eI b))) := by
  have : kLr1 (k1.v (eI b)) = kLr 0 b := by cases k1 <;> rfl
  rw [this]
  unfold lrT kLr
  split
  · show _ = Re.ok (Rv.fr (D.l ((rangeI 0 b).map eI))); rw [rgD_map]
  · trivial
def idxT (xs : List Int) (a : Int) : Re Int := match xs.findIdx? (· == a) with
  | some j => .ok (j : Nat) | none => .bad
theorem er_idx {x : Re (List Int)} {y : Re Int} (hx : ER m L k1 (eL eI) x f) (hy : ER m L k2 eI y g) : ER m L .sh eI (x.bind fun a => y.bind fun b => idxT a b) (eIdx f g) := fun Γ hΓ => by
  have h1 := hx Γ hΓ
  have h2 := hy Γ hΓ
  unfold eIdx
  cases x with
  | ok a =>
    have h1 : f Γ = .ok _ := h1
    simp only [h1, Re.bind_ok, seq_v]
    cases y with
    | ok b =>
      have h2 : g Γ = .ok _ := h2
      simp only [h2, Re.bind_ok]
      show RE1 .sh eI (idxT a b) _
      unfold idxT kIdx
      rw [seq_v, Kd.v_d]
      dsimp only
      rw [D.ints_map]
      dsimp only
      cases a.findIdx? (· == b) with
      | some j => rfl
      | none => trivial
    | ex z => have h2 : g Γ = .ex z := h2; rw [h2]; rfl
    | bad => trivial
  | ex z => have h1 : f Γ = .ex z := h1; rw [h1]; rfl
  | bad => trivial
theorem er_dk0 {α : Type} {ea : α → D} : ER m L .fr (eDk ea) (.ok []) eDk0 := fun _ _ => rfl
theorem er_get2 {A : List (Int × α)} {a : Int} {b : α} (hx : ER m L k1 (eDk ea) (.ok A) f) (hy : ER m L k2 eI (.ok a) g) (hz : ER m L .sh ea (.ok b) h) : ER m L .sh ea (.ok ((alook A a).getD b)) (eGet2 f g h) := fun Γ hΓ => by
  have h1 : f Γ = .ok _ := hx Γ hΓ
  have h2 : g Γ = .ok _ := hy Γ hΓ
  have h3 : h Γ = .ok _ := hz Γ hΓ
  show eGet2 f g h Γ = _
  unfold eGet2
  simp only [h1, Re.bind_ok, Kd.v_d, D.isD, if_true, h2, h3]
  unfold kGet2
  rw [Kd.v_d, Kd.v_d]
  dsimp only [dlook, D.key?, Option.map_some]
  rw [kget_map (ea := ea) inl_inj A a]
  cases alook A a <;> rfl
theorem er_disp2 {a b : Int} {u v : α} (ha : ER m L k1 eI (.ok a) f) (hu : ER m L k2 ea (.ok u) g) (hk2 : k2.ok = true) (hb : ER m L k3 eI (.ok b) f4) (hv : ER m L k4 ea (.ok v) f5) (hk4 : k4.ok = true) : ER m L .fr (eDk ea) (.ok (aput (aput [] a u) b v)) (eDisp [(f, g), (f4, f5)]) := fun Γ hΓ => by
  have h1 : f Γ = .ok _ := ha Γ hΓ
  have h2 : g Γ = .ok _ := hu Γ hΓ
  have h3 : f4 Γ = .ok _ := hb Γ hΓ
  have h4 : f5 Γ = .ok _ := hv Γ hΓ
  show eDisp _ Γ = _
  have e1 : dPairs [(f, g), (f4, f5)] Γ = .ok [((.inl a : Key), ea u), ((.inl b : Key), ea v)] := by
    unfold dPairs
    dsimp only
    rw [h1, Re.bind_ok, Kd.v_d]
    dsimp only [D.key?]
    rw [h2, Re.bind_ok, Kd.share hk2, Re.bind_ok]
    unfold dPairs
    dsimp only
    rw [h3, Re.bind_ok, Kd.v_d]
    dsimp only [D.key?]
    rw [h4, Re.bind_ok, Kd.share hk4, Re.bind_ok]
    rfl
  unfold eDisp
  rw [e1, Re.bind_ok]
  have q1 := kput_map (ea := ea) inl_inj ([] : List (Int × α)) a u
  have q2 := kput_map (ea := ea) inl_inj (aput ([] : List (Int × α)) a u) b v
  simp only [List.map_nil] at q1
  have q3 : mergeD (([] : List Key), ([] : List D)) [((.inl a : Key), ea u), ((.inl b : Key), ea v)] = ((aput (aput [] a u) b v).map fun p => (.inl p.1 : Key), (aput (aput [] a u) b v).map fun p => ea p.2) := by
    show kput (kput ([] : List Key) [] (.inl a) (ea u)).1 (kput ([] : List Key) [] (.inl a) (ea u)).2 (.inl b) (ea v) = _
    rw [q1]
    exact q2
  rw [q3]
  rfl
theorem er_inW {neg : Bool} {tbl : List (Str × Int)} {x : Re Str} (hx : ER m L k1 eS x f) : ER m L .sh eB (x.bind fun w => .ok (if neg then !(tlook tbl w).isSome else (tlook tbl w).isSome)) (eInW neg tbl f) := fun Γ hΓ => by
  have h1 := hx Γ hΓ
  unfold eInW
  cases x with
  | ok a => have h1 : f Γ = .ok _ := h1; simp only [h1, Re.bind_ok, Kd.v_d]; rfl
  | ex z => have h1 : f Γ = .ex z := h1; rw [h1]; rfl
  | bad => trivial
def tgetT (tbl : List (Str × Int)) (w : Str) : Re Int := match tlook tbl w with
  | some i => .ok i | none => .bad
theorem er_getW {tbl : List (Str × Int)} {x : Re Str} (hx : ER m L k1 eS x f) : ER m L .sh eI (x.bind fun w => tgetT tbl w) (eGetW tbl f) := fun Γ hΓ => by
  have h1 := hx Γ hΓ
  unfold eGetW
  cases x with
  | ok a =>
    have h1 : f Γ = .ok _ := h1
    simp only [h1, Re.bind_ok, Kd.v_d]
    show RE1 .sh eI (tgetT tbl a) _
    unfold tgetT
    cases tlook tbl a <;> first | rfl | trivial
  | ex z => have h1 : f Γ = .ex z := h1; rw [h1]; rfl
  | bad => trivial
theorem ir_a {x : Re (List τ)} (hk : k1.ok = true) (hx : ER m L k1 (eL e) x f) : IR m L e x (itA f) := fun Γ hΓ => by
  have h1 := hx Γ hΓ
  rw [itA_at]
  cases x with
  | ok a => have h1 : f Γ = .ok _ := h1; rw [h1, Re.bind_ok]; cases k1 <;> first | rfl | cases hk
  | ex z => have h1 : f Γ = .ex z := h1; rw [h1]; rfl
  | bad => trivial
theorem ir_t {x : Re (List τ)} (hx : ER m L .sh (eTu e) x f) : IR m L e x (itA f) := fun Γ hΓ => by
  have h1 := hx Γ hΓ
  rw [itA_at]
  cases x with
  | ok a => have h1 : f Γ = .ok _ := h1; rw [h1, Re.bind_ok]; rfl
  | ex z => have h1 : f Γ = .ex z := h1; rw [h1]; rfl
  | bad => trivial
@[irreducible] def rngT (a b : Int) : Re (List Int) := if rgb a b = true then .ok (rangeI a b) else .bad
theorem rngT_ok {a b : Int} (h : rgb a b = true) : rngT a b = .ok (rangeI a b) := by unfold rngT; exact if_pos h
theorem itR_map (a b : Int) : RI1 eI (rngT a b) (itR a b) := by
  unfold rngT itR
  split
  · show _ = Re.ok _; rw [rgD_map]
  · trivial
theorem ir_r1 {x : Re Int} (hx : ER m L .sh eI x f) : IR m L eI (x.bind fun a => rngT 0 a) (itR1 f) := fun Γ hΓ => by
  have h1 := hx Γ hΓ
  rw [itR1_at]
  cases x with
  | ok a => have h1 : f Γ = .ok _ := h1; rw [h1, Re.bind_ok]; exact itR_map 0 a
  | ex z => have h1 : f Γ = .ex z := h1; rw [h1]; rfl
  | bad => trivial
theorem ir_r2 {x y : Re Int} (hx : ER m L .sh eI x f) (hy : ER m L .sh eI y g) : IR m L eI (x.bind fun a => y.bind fun b => rngT a b) (itR2 f g) := fun Γ hΓ => by
  have h1 := hx Γ hΓ
  have h2 := hy Γ hΓ
  rw [itR2_at]
  cases x with
  | ok a =>
    have h1 : f Γ = .ok _ := h1
    rw [h1, Re.bind_ok]
    cases y with
    | ok b => have h2 : g Γ = .ok _ := h2; rw [h2, Re.bind_ok]; exact itR_map a b
    | ex z => have h2 : g Γ = .ex z := h2; rw [h2]; rfl
    | bad => trivial
  | ex z => have h1 : f Γ = .ex z := h1; rw [h1]; rfl
  | bad => trivial
@[irreducible] def rng3T (a b c : Int) : Re (List Int) := if c ≠ 0 ∧ c.natAbs < 1073741824 ∧ Builtin.Range.small a b c = true then .ok ((List.range (Builtin.Range.rangeSize a b c).toNat).map fun i => a + (i : Nat) * c) else .bad
theorem ir_r3 {x y z : Re Int} (hx : ER m L .sh eI x f) (hy : ER m L .sh eI y g) (hz : ER m L .sh eI z h) : IR m L eI (x.bind fun a => y.bind fun b => z.bind fun c => rng3T a b c) (itR3 f g h) := fun Γ hΓ => by
  have h1 := hx Γ hΓ
  have h2 := hy Γ hΓ
  have h3 := hz Γ hΓ
  unfold itR3
  cases x with
  | ok a =>
    have h1 : f Γ = .ok _ := h1
    rw [h1, Re.bind_ok]
    cases y with
    | ok b =>
      have h2 : g Γ = .ok _ := h2
      rw [h2, Re.bind_ok]
      cases z with
      | ok c =>
        have h3 : h Γ = .ok _ := h3
        rw [h3, Re.bind_ok]
        show RI1 eI (rng3T a b c) (if _ then _ else _)
        unfold rng3T
        split
        · show Re.ok (rg3 a c _) = .ok _
          unfold rg3
          rw [List.map_map]; rfl
        · trivial
      | ex z => have h3 : h Γ = .ex z := h3; rw [h3]; rfl
      | bad => trivial
    | ex z => have h2 : g Γ = .ex z := h2; rw [h2]; rfl
    | bad => trivial
  | ex z => have h1 : f Γ = .ex z := h1; rw [h1]; rfl
  | bad => trivial
def enumI (xs : List α) : List (Int × α) := (List.range xs.length).zipWith (fun (k : Nat) a => ((k : Int), a)) xs
theorem ir_en {x : Re (List τ)} (hk : k1.ok = true) (hx : ER m L k1 (eL e) x f) : IR m L (eP2 eI e) (x.bind fun xs => .ok (enumI xs)) (itE f) := fun Γ hΓ => by
  have h1 := hx Γ hΓ
  unfold itE
  cases x with
  | ok a =>
    have h1 : f Γ = .ok _ := h1
    simp only [h1, Re.bind_ok, Kd.share hk]
    show Re.ok (enumD (a.map e)) = Re.ok ((enumI a).map _)
    congr 1
    unfold enumD enumI
    rw [List.length_map, List.map_zipWith, List.zipWith_map_right]
  | ex z => have h1 : f Γ = .ex z := h1; rw [h1]; rfl
  | bad => trivial
def signsT (x : Str) : List Str := x.cps.toList.map fun k => ⟨#[k]⟩
theorem ir_s {x : Re Str} (hx : ER m L .sh eS x f) : IR m L eS (x.bind fun a => .ok (signsT a)) (itA f) := fun Γ hΓ => by
  have h1 := hx Γ hΓ
  rw [itA_at]
  cases x with
  | ok a =>
    have h1 : f Γ = .ok _ := h1; rw [h1, Re.bind_ok]
    show Re.ok (signs a) = Re.ok ((signsT a).map eS)
    unfold signs signsT
    rw [List.map_map]; rfl
  | ex z => have h1 : f Γ = .ex z := h1; rw [h1]; rfl
  | bad => trivial
def TgR (m : Nat) (e : τ → D) (t : Tg) (en : τ → Lk) : Prop := ∀ L (a : τ) Γ, Ag m L Γ → ∃ Γ1, t.set (e a) Γ = some Γ1 ∧ Ag m (en a ++ L) Γ1
theorem tg_1 {i : Nat} (hi : i < m) : TgR m e (.one i) fun a => [(i, .sh (e a))] := fun L a Γ hΓ => ⟨_, rfl, hΓ.set hi _⟩
theorem tg_2 {i j : Nat} (hi : i < m) (hj : j < m) : TgR m (eP2 ea eb) (.tup [i, j]) fun p => [(j, .sh (eb p.2)), (i, .sh (ea p.1))] := fun L a Γ hΓ => ⟨_, rfl, (hΓ.set hi _).set hj _⟩
theorem tg_3 {i j l : Nat} (hi : i < m) (hj : j < m) (hl : l < m) : TgR m (eP3 ea eb ec) (.tup [i, j, l]) fun p => [(l, .sh (ec p.2.2)), (j, .sh (eb p.2.1)), (i, .sh (ea p.1))] := fun L a Γ hΓ => ⟨_, rfl, ((hΓ.set hi _).set hj _).set hl _⟩
structure Agx (m : Nat) (own : List Nat) (L : Lk) (Γ : Env') : Prop where
  len : Γ.length = m
  at' : ∀ i r, i ∉ own → lk i L = some r → Γ[i]? = some (some r)
theorem Ag.wipe {Γ : Env'} (h : Ag m L Γ) : ∀ own : List Nat, Agx m own L (wipeG Γ own)
  | [] => ⟨h.len, fun i r _ e => h.at' i r e⟩
  | i :: own => by
    have ih := Ag.wipe h own
    refine ⟨by unfold wipeG; rw [List.length_set]; exact ih.len, fun j r hj e => ?_⟩
    unfold wipeG
    rw [List.getElem?_set_ne (fun z => hj (by rw [z]; exact List.mem_cons_self))]
    exact ih.at' j r (fun z => hj (List.mem_cons_of_mem _ z)) e
theorem Agx.set {i : Nat} {own : List Nat} {Γ : Env'} (h : Agx m (i :: own) L Γ) (hi : i < m) (r : Rv) : Agx m own ((i, r) :: L) (Γ.set i (some r)) := by
  refine ⟨by rw [List.length_set]; exact h.len, fun j s hj e => ?_⟩
  rw [lk_cons] at e
  by_cases hji : j = i
  · subst hji; rw [if_pos rfl] at e; cases e; exact List.getElem?_set_self (by rw [h.len]; exact hi)
  · rw [if_neg hji] at e
    rw [List.getElem?_set_ne (Ne.symm hji)]
    exact h.at' j s (by simp [hji, hj]) e
theorem Agx.ag {Γ : Env'} (h : Agx m [] L Γ) : Ag m L Γ := ⟨h.len, fun i r e => h.at' i r (by simp) e⟩
def TgC (m : Nat) (e : τ → D) (t : Tg) (own : List Nat) (en : τ → Lk) : Prop := ∀ L (a : τ) Γ, Ag m L Γ → ∃ Γ1, t.set (e a) (wipeG Γ own) = some Γ1 ∧ Ag m (en a ++ L) Γ1
theorem tc_1 {i : Nat} (hi : i < m) : TgC m e (.one i) [i] fun a => [(i, .sh (e a))] := fun L a Γ hΓ => ⟨_, rfl, ((hΓ.wipe [i]).set hi _).ag⟩
theorem tc_2 {i j : Nat} (hi : i < m) (hj : j < m) : TgC m (eP2 ea eb) (.tup [i, j]) [i, j] fun p => [(j, .sh (eb p.2)), (i, .sh (ea p.1))] := fun L a Γ hΓ => ⟨_, rfl, (((hΓ.wipe [i, j]).set hi _).set hj _).ag⟩
theorem tc_3 {i j l : Nat} (hi : i < m) (hj : j < m) (hl : l < m) : TgC m (eP3 ea eb ec) (.tup [i, j, l]) [i, j, l] fun p => [(l, .sh (ec p.2.2)), (j, .sh (eb p.2.1)), (i, .sh (ea p.1))] := fun L a Γ hΓ => ⟨_, rfl, ((((hΓ.wipe [i, j, l]).set hi _).set hj _).set hl _).ag⟩
def mapT (x : α → Re τ) : List α → Re (List τ)
  | [] => .ok []
  | a :: as => match x a with
    | .ok b => (match mapT x as with | .ok bs => .ok (b :: bs) | _ => .bad)
    | _ => .bad
def lcM (x : Re (List τ)) : Re (List τ) := match x with
  | .ok ys => lcP ys | _ => .bad
def filT (c : α → Re Bool) : List α → Re (List α)
  | [] => .ok []
  | a :: as => match c a with
    | .ok true => (match filT c as with | .ok bs => .ok (a :: bs) | _ => .bad)
    | .ok false => filT c as
    | _ => .bad
theorem lcL_t {t : Tg} {own : List Nat} {en : α → Lk} {x : α → Re τ} {fe : FE} {Γ : Env'} (hk : k.ok = true) (ht : TgC m ea t own en) (hΓ : Ag m L Γ) (hx : ∀ a, ER m (en a ++ L) k e (x a) fe) : ∀ (as : List α) (bs : List τ), mapT x as = .ok bs → lcL t tYesF fe (wipeG Γ own) (as.map ea) = .ok (bs.map e)
  | [], bs, h => by cases h; rfl
  | a :: as, bs, h => by
    unfold mapT at h
    obtain ⟨Γ1, h1, h2⟩ := ht L a Γ hΓ
    have h3 := hx a Γ1 h2
    cases ex : x a with
    | ok b =>
      rw [ex] at h h3
      dsimp only at h
      have h3 : fe Γ1 = .ok _ := h3
      cases em : mapT x as with
      | ok cs =>
        rw [em] at h
        cases h
        rw [List.map_cons, List.map_cons]
        unfold lcL
        rw [lcL_t hk ht hΓ hx as cs em]
        unfold lcStep
        rw [h1]
        simp [tYesF, h3, Kd.share hk, -Kd.v]
      | ex z => rw [em] at h; cases h
      | bad => rw [em] at h; cases h
    | ex z => rw [ex] at h; cases h
    | bad => rw [ex] at h; cases h
theorem lcL_ft {t : Tg} {own : List Nat} {en : α → Lk} {c : α → Re Bool} {x : α → Re τ} {fe : FE} {Γ : Env'} (hk : k.ok = true) (ht : TgC m ea t own en) (hΓ : Ag m L Γ) (hc : ∀ a, TR m (en a ++ L) (c a) ft) (hx : ∀ a, ER m (en a ++ L) k e (x a) fe) : ∀ (as as' : List α) (bs : List τ), filT c as = .ok as' → mapT x as' = .ok bs → lcL t ft fe (wipeG Γ own) (as.map ea) = .ok (bs.map e)
  | [], as', bs, h, h' => by cases h; cases h'; rfl
  | a :: as, as', bs, h, h' => by
    unfold filT at h
    obtain ⟨Γ1, h1, h2⟩ := ht L a Γ hΓ
    have h3 := hx a Γ1 h2
    have h4 := hc a Γ1 h2
    rw [List.map_cons]
    unfold lcL
    cases ec : c a with
    | ok b =>
      rw [ec] at h h4
      have h4 : ft Γ1 = .ok b := h4
      cases b with
      | false =>
        dsimp only at h
        rw [lcL_ft hk ht hΓ hc hx as as' bs h h']
        unfold lcStep
        rw [h1]
        simp [h4]
      | true =>
        dsimp only at h
        cases ef : filT c as with
        | ok cs =>
          rw [ef] at h
          cases h
          unfold mapT at h'
          cases ex : x a with
          | ok b =>
            rw [ex] at h' h3
            dsimp only at h'
            have h3 : fe Γ1 = .ok _ := h3
            cases em : mapT x cs with
            | ok ds =>
              rw [em] at h'
              cases h'
              rw [lcL_ft hk ht hΓ hc hx as cs ds ef em, List.map_cons]
              unfold lcStep
              rw [h1]
              simp [h4, h3, Kd.share hk, -Kd.v]
            | ex z => rw [em] at h'; cases h'
            | bad => rw [em] at h'; cases h'
          | ex z => rw [ex] at h'; cases h'
          | bad => rw [ex] at h'; cases h'
        | ex z => rw [ef] at h; cases h
        | bad => rw [ef] at h; cases h
    | ex z => rw [ec] at h; cases h
    | bad => rw [ec] at h; cases h
theorem mapT_p {p : α → τ} : ∀ as : List α, mapT (fun a => .ok (p a)) as = .ok (as.map p)
  | [] => rfl
  | a :: as => by unfold mapT; dsimp only; rw [mapT_p as]; rfl
theorem filT_p {p : α → Bool} : ∀ as : List α, filT (fun a => .ok (p a)) as = .ok (as.filter p)
  | [] => rfl
  | a :: as => by
    unfold filT
    rw [filT_p as, List.filter_cons]
    cases h : p a <;> rfl
theorem er_lc {t : Tg} {own : List Nat} {en : α → Lk} {y : Re (List α)} {x : α → Re τ} {fe : FE} (hi : IR m L ea y fi) (ht : TgC m ea t own en) (hk : k.ok = true) (hx : ∀ a, ER m (en a ++ L) k e (x a) fe) : ER m L .fr (eL e) (y.bind fun as => lcM (mapT x as)) (eLc fi t tYesF fe own) := fun Γ hΓ => by
  have h1 := hi Γ hΓ
  rw [eLc_at]
  cases y with
  | ok as =>
    have h1 : fi Γ = .ok _ := h1
    simp only [h1, Re.bind_ok]
    show RE1 .fr (eL e) (lcM (mapT x as)) _
    cases em : mapT x as with
    | ok bs =>
      rw [lcL_t hk ht hΓ hx as bs em]
      show RE1 .fr (eL e) (lcP bs) (lcRes (.ok (bs.map e)))
      unfold lcP lcRes
      by_cases hl : bs.length ≤ 16777216
      · rw [if_pos hl]; dsimp only; rw [if_pos (by simpa using hl)]; rfl
      · rw [if_neg hl]; trivial
    | ex z => trivial
    | bad => trivial
  | ex z => have h1 : fi Γ = .ex z := h1; rw [h1]; rfl
  | bad => trivial
theorem er_lcp {t : Tg} {own : List Nat} {en : α → Lk} {y : Re (List α)} {x : α → τ} {fe : FE} (hi : IR m L ea y fi) (ht : TgC m ea t own en) (hk : k.ok = true) (hx : ∀ a, ER m (en a ++ L) k e (.ok (x a)) fe) : ER m L .fr (eL e) (y.bind fun as => lcP (as.map x)) (eLc fi t tYesF fe own) := by
  have := er_lc hi ht hk hx
  simp only [mapT_p] at this
  exact this
theorem er_lf {t : Tg} {own : List Nat} {en : α → Lk} {y : Re (List α)} {c : α → Re Bool} {x : α → Re τ} {fe : FE} (hi : IR m L ea y fi) (ht : TgC m ea t own en) (hk : k.ok = true) (hc : ∀ a, TR m (en a ++ L) (c a) ft) (hx : ∀ a, ER m (en a ++ L) k e (x a) fe) :
    ER m L .fr (eL e) (y.bind fun as => match filT c as with | .ok as' => lcM (mapT x as') | _ => .bad) (eLc fi t ft fe own) := fun Γ hΓ => by
  have h1 := hi Γ hΓ
  rw [eLc_at]
  cases y with
  | ok as =>
    have h1 : fi Γ = .ok _ := h1
    simp only [h1, Re.bind_ok]
    show RE1 .fr (eL e) (match filT c as with | .ok as' => lcM (mapT x as') | _ => .bad) _
    cases ef : filT c as with
    | ok as' =>
      dsimp only
      cases em : mapT x as' with
      | ok bs =>
        rw [lcL_ft hk ht hΓ hc hx as as' bs ef em]
        show RE1 .fr (eL e) (lcP bs) (lcRes (.ok (bs.map e)))
        unfold lcP lcRes
        by_cases hl : bs.length ≤ 16777216
        · rw [if_pos hl]; dsimp only; rw [if_pos (by simpa using hl)]; rfl
        · rw [if_neg hl]; trivial
      | ex z => trivial
      | bad => trivial
    | ex z => trivial
    | bad => trivial
  | ex z => have h1 : fi Γ = .ex z := h1; rw [h1]; rfl
  | bad => trivial
theorem er_lfp {t : Tg} {own : List Nat} {en : α → Lk} {y : Re (List α)} {c : α → Bool} {x : α → τ} {fe : FE} (hi : IR m L ea y fi) (ht : TgC m ea t own en) (hk : k.ok = true) (hc : ∀ a, TR m (en a ++ L) (.ok (c a)) ft) (hx : ∀ a, ER m (en a ++ L) k e (.ok (x a)) fe) :
    ER m L .fr (eL e) (y.bind fun as => lcP ((as.filter c).map x)) (eLc fi t ft fe own) := by
  have := er_lf hi ht hk hc hx
  simp only [mapT_p, filT_p] at this
  exact this
theorem call_out {F : List D → Re Rv} {ds : List D} {z : Re τ} {n : Nat} (hn : ds.length = n) (hk : k.ok = true) (hF : RE1 k e z (F ds)) : RE1 k e z (if ds.length = n then (match F ds with | .ok (.bo _) => .bad | r => r) else .bad) := by
  rw [if_pos hn]
  cases z with
  | ok a => have hF : F ds = .ok _ := hF; show _ = _; rw [hF]; cases k <;> first | rfl | cases hk
  | ex w => have hF : F ds = .ex w := hF; show _ = _; rw [hF]
  | bad => trivial
def AR (m : Nat) (L : Lk) (ds : List D) (fa : FA) : Prop := ∀ Γ, Ag m L Γ → fa Γ = .ok ds
theorem ar_n : AR m L [] aNil := fun _ _ => rfl
theorem ar_c {a : α} {ds : List D} (hk : k1.ok = true) (hx : ER m L k1 ea (.ok a) f) (hy : AR m L ds fa) : AR m L (ea a :: ds) (aCons f fa) := fun Γ hΓ => by
  have h1 : f Γ = .ok _ := hx Γ hΓ
  rw [aCons_at, h1, Re.bind_ok, Kd.share hk, Re.bind_ok, hy Γ hΓ]
  rfl
theorem er_callp {n : Nat} {F : List D → Re Rv} {ds : List D} {z : Re τ} (ha : AR m L ds fa) (hn : ds.length = n) (hk : k.ok = true) (hF : RE1 k e z (F ds)) : ER m L k e z (eCall n F fa) := fun Γ hΓ => by
  rw [eCall_at, ha Γ hΓ, Re.bind_ok]
  exact call_out hn hk hF
def CR' (m : Nat) (L : Lk) (k : Kd) (e : τ → D) (z : Re τ) (fa : FA) (R : List D → Re Rv) : Prop := ∀ Γ, Ag m L Γ → RE1 k e z ((fa Γ).bind R)
theorem cr_n {z : Re τ} {R : List D → Re Rv} (h : RE1 k e z (R [])) : CR' m L k e z aNil R := fun Γ _ => h
theorem cr_c {x : Re α} {t : α → Re τ} {R : List D → Re Rv} (hk : k1.ok = true) (hx : ER m L k1 ea x f) (hr : ∀ a, CR' m L k e (t a) fa fun ds => R (ea a :: ds)) : CR' m L k e (x.bind t) (aCons f fa) R := fun Γ hΓ => by
  have h1 := hx Γ hΓ
  rw [aCons_at]
  cases x with
  | ok a =>
    have h1 : f Γ = .ok _ := h1
    have h2 := hr a Γ hΓ
    simp only [h1, Re.bind_ok, Kd.share hk]
    show RE1 k e (t a) _
    cases ef : fa Γ with
    | ok ds => rw [ef] at h2; exact h2
    | ex z => rw [ef] at h2; exact h2
    | bad => rw [ef] at h2; exact h2
  | ex z => have h1 : f Γ = .ex z := h1; rw [h1]; rfl
  | bad => trivial
theorem er_call {n : Nat} {F : List D → Re Rv} {z : Re τ} (h : CR' m L k e z fa fun ds => if ds.length = n then (match F ds with | .ok (.bo _) => .bad | r => r) else .bad) : ER m L k e z (eCall n F fa) := h
theorem er_callK {n j nn : Nat} {l : List Src} {dds : List D} {F : List D → Re Rv} {ds zs es : List D} {z : Re τ} (ha : AR m L ds fa) (hk : AR m L zs fb) (hn : ds.length = n ∧ zs.length = j ∧ es.length = nn) (hg : gp l ds dds zs = es) (hkk : k.ok = true) (hF : RE1 k e z (F es)) : ER m L k e z (eCallK n j l dds nn F fa fb) := fun Γ hΓ => by
  unfold eCallK
  rw [ha Γ hΓ, Re.bind_ok, hk Γ hΓ, Re.bind_ok, hg]
  rw [if_pos hn]
  cases z with
  | ok a => have hF : F es = .ok _ := hF; show _ = _; rw [hF]; cases k <;> first | rfl | cases hkk
  | ex w => have hF : F es = .ex w := hF; show _ = _; rw [hF]
  | bad => trivial
def nxT {α : Type} (x : Re α) : Re α := match x with
  | .ok a => .ok a | _ => .bad
theorem er_fz {i : Nat} {x : Re Bool} (hx : ER m (frzL i L) .sh eB x f) : ER m L .sh eB (nxT x) (eFz i f) := fun Γ hΓ => by
  have h1 := hx _ (hΓ.frz i)
  cases x with
  | ok a =>
    have h1 : f (frz i Γ) = .ok (.sh (.b a)) := h1
    show eFz i f Γ = _
    unfold eFz
    rw [h1]
    rfl
  | ex z => trivial
  | bad => trivial
end
end Ly
end

section
set_option maxRecDepth 100000
namespace Ly
open PySem PySem.Spec L2
open PyProof.Rows hiding St
inductive Ct (S ρ : Type) where
  | nx (s : S) | rt (r : ρ)
def ctK {S ρ β : Type} (K : S → Re β) (j : ρ → Re β) : Ct S ρ → Re β
  | .nx s => K s | .rt r => j r
@[simp] theorem ctK_nx {S ρ β : Type} {K : S → Re β} {j : ρ → Re β} {s : S} : ctK K j (.nx s) = K s := rfl
@[simp] theorem ctK_rt {S ρ β : Type} {K : S → Re β} {j : ρ → Re β} {r : ρ} : ctK K j (.rt r) = j r := rfl
def RS {α : Type} (P : α → Fl → Prop) (T : Re α) (fl : Fl) : Prop := match T with
  | .ok a => P a fl | .ex z => ∃ Γ', fl = .ex z Γ' | .bad => True
def BG {α : Type} (m : Nat) (L : Lk) (P : α → Fl → Prop) (T : Re α) (u : FS) : Prop := ∀ Γ, Ag m L Γ → RS P T (u Γ)
section
variable {m : Nat} {L : Lk} {k k1 k2 k3 k4 k5 : Kd} {α β γ δ ε τ ω S : Type} {e : τ → D} {ea : α → D} {eb : β → D} {ec : γ → D} {f g h f4 f5 : FE} {ft gt : FT} {fa fb : FA} {fi : FI} {u v w : FS} {P : ω → Fl → Prop} {i j : Nat}
def PN (m : Nat) (Lo : S → Lk) : S → Fl → Prop := fun s fl => ∃ Γ', fl = .nx Γ' ∧ Ag m (Lo s) Γ'
def PT (k : Kd) (e : τ → D) : τ → Fl → Prop := fun r fl => fl = .rt (k.v (e r))
def P0 : Unit → Fl → Prop := fun _ fl => (∃ Γ', fl = .nx Γ') ∨ fl = .rt (.sh .n)
def PC (m : Nat) (Lo : S → Lk) (k : Kd) (e : τ → D) : Ct S τ → Fl → Prop
  | .nx s, fl => ∃ Γ', fl = .nx Γ' ∧ Ag m (Lo s) Γ'
  | .rt r, fl => fl = .rt (k.v (e r))
theorem bg_bad : BG m L P .bad u := fun _ _ => trivial
theorem bg_sub {L' : Lk} {T : Re ω} (hs : subL L' L) (h : BG m L' P T u) : BG m L P T u := fun Γ hΓ => h Γ (hΓ.sub hs)
theorem bg_last {T : Re ω} (h : BG m L P T (sSeq u sNil)) : BG m L P T u := fun Γ hΓ => by
  have h1 := h Γ hΓ
  have e : sSeq u sNil Γ = u Γ := by
    unfold sSeq sNil
    cases u Γ <;> rfl
  rw [e] at h1
  exact h1
theorem bg_assoc {T : Re ω} (h : BG m L P T (sSeq u (sSeq v w))) : BG m L P T (sSeq (sSeq u v) w) := fun Γ hΓ => by
  have h1 := h Γ hΓ
  have e : sSeq (sSeq u v) w Γ = sSeq u (sSeq v w) Γ := by
    unfold sSeq
    cases u Γ <;> rfl
  rw [e]
  exact h1
theorem bg_nil {T : Re ω} (h : BG m L P T w) : BG m L P T (sSeq sNil w) := h
theorem bg_frz {T : Re ω} (h : BG m (frzL i L) P T u) : BG m L P T (sFrz i u) := fun Γ hΓ => h _ (hΓ.frz i)
theorem bg_frzS {T : Re ω} (h : BG m (frzL i L) P T (sSeq u w)) : BG m L P T (sSeq (sFrz i u) w) := fun Γ hΓ => h _ (hΓ.frz i)
theorem bg_step {x : Re α} {K : α → Re ω} {F : Rv → Env' → Fl} (hx : ER m L k ea x f) (hu : ∀ Γ, u Γ = (f Γ).fl Γ fun r => F r Γ) (h : ∀ a Γ, Ag m L Γ → RS P (K a) (match F (k.v (ea a)) Γ with | .nx Γ' => w Γ' | o => o)) : BG m L P (x.bind K) (sSeq u w) := fun Γ hΓ => by
  have h1 := hx Γ hΓ
  unfold sSeq
  rw [hu]
  cases x with
  | ok a => have h1 : f Γ = .ok _ := h1; rw [h1]; exact h a Γ hΓ
  | ex z => have h1 : f Γ = .ex z := h1; rw [h1]; exact ⟨Γ, rfl⟩
  | bad => trivial
theorem bg_set {x : Re α} {K : α → Re ω} (hi : i < m) (hk : k.ok = true) (hx : ER m L k ea x f) (h : ∀ a, BG m ((i, k.v (ea a)) :: L) P (K a) w) : BG m L P (x.bind K) (sSeq (sSet i f) w) :=
  bg_step (F := fun r Γ => setR i Γ r) hx (fun Γ => rfl) fun a Γ hΓ => by
    have e : setR i Γ (k.v (ea a)) = .nx (Γ.set i (some (k.v (ea a)))) := by cases k <;> first | rfl | cases hk
    rw [e]
    exact h a _ (hΓ.set hi _)
theorem bg_ex {x : Re α} {K : α → Re ω} (hx : ER m L k ea x f) (h : ∀ a, BG m L P (K a) w) : BG m L P (x.bind K) (sSeq (sEx f) w) :=
  bg_step (F := fun r Γ => .nx Γ) hx (fun Γ => rfl) fun a Γ hΓ => h a Γ hΓ
theorem bg_ret {x : Re τ} {K : τ → Re ω} (hx : ER m L k e x f) (h : ∀ a, ∃ b, K a = .ok b ∧ P b (.rt (match k with | .sh => Rv.sh (e a) | _ => .fr (e a)))) : BG m L P (x.bind K) (sSeq (sRet f) w) :=
  bg_step (F := fun r Γ => match r with | .bo d => .rt (.fr d) | r => .rt r) hx (fun Γ => rfl) fun a Γ hΓ => by
    obtain ⟨b, e1, h1⟩ := h a
    rw [e1]
    show P b _
    cases k <;> exact h1
theorem bg_retN {b : ω} (h : P b (.rt (.sh .n))) : BG m L P (.ok b) (sSeq sRetN w) := fun Γ hΓ => h
theorem bg_raise {x : Str} : BG m L P (.ex ⟨x, none⟩) (sSeq (sRaise x) w) := fun Γ hΓ => ⟨Γ, rfl⟩
theorem bg_end {Lo : S → Lk} {s : S} (hs : subL (Lo s) L) : BG m L (PN m Lo) (.ok s) sNil := fun Γ hΓ => ⟨Γ, rfl, hΓ.sub hs⟩
theorem bg_endC {Lo : S → Lk} {s : S} (hs : subL (Lo s) L) : BG m L (PC m Lo k e) (.ok (.nx s)) sNil := fun Γ hΓ => ⟨Γ, rfl, hΓ.sub hs⟩
theorem bg_end0 : BG m L P0 (.ok ()) sNil := fun Γ hΓ => .inl ⟨Γ, rfl⟩
theorem bg_test {x : Re Bool} {A B : Re ω} (hx : TR m L x ft) (ha : ∀ Γ, Ag m L Γ → RS P A (sSeq u w Γ)) (hb : ∀ Γ, Ag m L Γ → RS P B (sSeq v w Γ)) : BG m L P (x.bind fun b => if b = true then A else B) (sSeq (sIf ft u v) w) := fun Γ hΓ => by
  have h1 := hx Γ hΓ
  have e : sSeq (sIf ft u v) w Γ = match (ft Γ).fl Γ (fun b => if b = true then u Γ else v Γ) with | .nx Γ' => w Γ' | o => o := rfl
  rw [e]
  cases x with
  | ok a =>
    have h1 : ft Γ = .ok a := h1
    rw [h1, fl_ok]
    show RS P (if a = true then A else B) _
    cases a with
    | true => rw [if_pos rfl, if_pos rfl]; exact ha Γ hΓ
    | false => rw [if_neg Bool.false_ne_true, if_neg Bool.false_ne_true]; exact hb Γ hΓ
  | ex z => have h1 : ft Γ = .ex z := h1; rw [h1]; exact ⟨Γ, rfl⟩
  | bad => trivial
theorem bg_ifD {x : Re Bool} {A B : Re ω} (hx : TR m L x ft) (ha : BG m L P A (sSeq u w)) (hb : BG m L P B (sSeq v w)) : BG m L P (x.bind fun b => if b = true then A else B) (sSeq (sIf ft u v) w) := bg_test hx ha hb
theorem bg_seq {Lo : S → Lk} {A : Re S} {K : S → Re ω} (ha : BG m L (PN m Lo) A u) (h : ∀ s, BG m (Lo s) P (K s) w) : BG m L P (A.bind K) (sSeq u w) := fun Γ hΓ => by
  have h1 := ha Γ hΓ
  unfold sSeq
  cases A with
  | ok s =>
    obtain ⟨Γ', e, h2⟩ := h1
    rw [e]
    exact h s Γ' h2
  | ex z => obtain ⟨Γ', e⟩ := h1; rw [e]; exact ⟨Γ', rfl⟩
  | bad => trivial
theorem bg_seqC {Lo : S → Lk} {A : Re (Ct S τ)} {K : S → Re ω} {jn : τ → ω} (ha : BG m L (PC m Lo k e) A u) (hj : ∀ r, P (jn r) (.rt (k.v (e r)))) (h : ∀ s, BG m (Lo s) P (K s) w) : BG m L P (A.bind (ctK K fun r => .ok (jn r))) (sSeq u w) := fun Γ hΓ => by
  have h1 := ha Γ hΓ
  unfold sSeq
  cases A with
  | ok c =>
    cases c with
    | nx s =>
      obtain ⟨Γ', e, h2⟩ := h1
      rw [e]
      exact h s Γ' h2
    | rt r =>
      have h1 : u Γ = .rt _ := h1
      rw [h1]
      exact hj r
  | ex z => obtain ⟨Γ', e⟩ := h1; rw [e]; exact ⟨Γ', rfl⟩
  | bad => trivial
theorem bg_if {x : Re Bool} {A B : Re ω} (hx : TR m L x ft) (ha : BG m L P A u) (hb : BG m L P B v) : BG m L P (x.bind fun b => if b = true then A else B) (sIf ft u v) := fun Γ hΓ => by
  have h1 := hx Γ hΓ
  show RS P _ ((ft Γ).fl Γ (fun b => if b = true then u Γ else v Γ))
  cases x with
  | ok a =>
    have h1 : ft Γ = .ok a := h1
    rw [h1, fl_ok]
    show RS P (if a = true then A else B) _
    cases a with
    | true => rw [if_pos rfl, if_pos rfl]; exact ha Γ hΓ
    | false => rw [if_neg Bool.false_ne_true, if_neg Bool.false_ne_true]; exact hb Γ hΓ
  | ex z => have h1 : ft Γ = .ex z := h1; rw [h1]; exact ⟨Γ, rfl⟩
  | bad => trivial
def forT (B : S → α → Re S) : List α → S → Re S
  | [], s => .ok s
  | a :: as, s => (B s a).bind fun s' => forT B as s'
def forC (B : S → α → Re (Ct S τ)) : List α → S → Re (Ct S τ)
  | [], s => .ok (.nx s)
  | a :: as, s => (B s a).bind fun c => match c with | .nx s' => forC B as s' | .rt r => .ok (.rt r)
theorem forL_t {t : Tg} {en : α → Lk} {Lh : S → Lk} {B : S → α → Re S} (ht : TgR m ea t en) (hb : ∀ s a, BG m (en a ++ Lh s) (PN m Lh) (B s a) u) : ∀ (as : List α) (s : S) (Γ : Env'), Ag m (Lh s) Γ → RS (PN m Lh) (forT B as s) (forL t u (as.map ea) Γ)
  | [], s, Γ, hΓ => ⟨Γ, rfl, hΓ⟩
  | a :: as, s, Γ, hΓ => by
    obtain ⟨Γ1, h1, h2⟩ := ht _ a Γ hΓ
    have h3 := hb s a Γ1 h2
    rw [List.map_cons]
    unfold forL forT
    rw [h1]
    dsimp only
    cases eB : B s a with
    | ok s' =>
      rw [eB] at h3
      obtain ⟨Γ', h4, h5⟩ := h3
      rw [h4]
      exact forL_t ht hb as s' Γ' h5
    | ex z => rw [eB] at h3; obtain ⟨Γ', h4⟩ := h3; rw [h4]; exact ⟨Γ', rfl⟩
    | bad => trivial
theorem bg_for {t : Tg} {en : α → Lk} {Lh : S → Lk} {B : S → α → Re S} {x : Re (List α)} {s0 : S} {K : S → Re ω} (hi : IR m L ea x fi) (ht : TgR m ea t en) (hs : subL (Lh s0) L) (hb : ∀ s a, BG m (en a ++ Lh s) (PN m Lh) (B s a) u) (h : ∀ s, BG m (Lh s) P (K s) w) :
    BG m L P (x.bind fun as => (forT B as s0).bind K) (sSeq (sFor fi t u) w) := fun Γ hΓ => by
  have h1 := hi Γ hΓ
  have e : sSeq (sFor fi t u) w Γ = match (fi Γ).fl Γ (fun ds => forL t u ds Γ) with | .nx Γ' => w Γ' | o => o := rfl
  rw [e]
  cases x with
  | ok as =>
    have h1 : fi Γ = .ok _ := h1
    rw [h1, fl_ok]
    have h2 := forL_t ht hb as s0 Γ (hΓ.sub hs)
    show RS P ((forT B as s0).bind K) _
    cases eF : forT B as s0 with
    | ok s =>
      rw [eF] at h2
      obtain ⟨Γ', h3, h4⟩ := h2
      rw [h3]
      exact h s Γ' h4
    | ex z => rw [eF] at h2; obtain ⟨Γ', h3⟩ := h2; rw [h3]; exact ⟨Γ', rfl⟩
    | bad => trivial
  | ex z => have h1 : fi Γ = .ex z := h1; rw [h1]; exact ⟨Γ, rfl⟩
  | bad => trivial
theorem forL_c {t : Tg} {en : α → Lk} {Lh : S → Lk} {B : S → α → Re (Ct S τ)} (ht : TgR m ea t en) (hb : ∀ s a, BG m (en a ++ Lh s) (PC m Lh k e) (B s a) u) : ∀ (as : List α) (s : S) (Γ : Env'), Ag m (Lh s) Γ → RS (PC m Lh k e) (forC B as s) (forL t u (as.map ea) Γ)
  | [], s, Γ, hΓ => ⟨Γ, rfl, hΓ⟩
  | a :: as, s, Γ, hΓ => by
    obtain ⟨Γ1, h1, h2⟩ := ht _ a Γ hΓ
    have h3 := hb s a Γ1 h2
    rw [List.map_cons]
    unfold forL forC
    rw [h1]
    dsimp only
    cases eB : B s a with
    | ok c =>
      rw [eB] at h3
      cases c with
      | nx s' =>
        obtain ⟨Γ', h4, h5⟩ := h3
        rw [h4]
        exact forL_c ht hb as s' Γ' h5
      | rt r =>
        have h3 : u Γ1 = .rt _ := h3
        rw [h3]
        exact rfl
    | ex z => rw [eB] at h3; obtain ⟨Γ', h4⟩ := h3; rw [h4]; exact ⟨Γ', rfl⟩
    | bad => trivial
theorem bg_forC {t : Tg} {en : α → Lk} {Lh : S → Lk} {B : S → α → Re (Ct S τ)} {x : Re (List α)} {s0 : S} {K : S → Re ω} {jn : τ → ω} (hi : IR m L ea x fi) (ht : TgR m ea t en) (hs : subL (Lh s0) L) (hb : ∀ s a, BG m (en a ++ Lh s) (PC m Lh k e) (B s a) u) (hj : ∀ r, P (jn r) (.rt (k.v (e r)))) (h : ∀ s, BG m (Lh s) P (K s) w) :
    BG m L P (x.bind fun as => (forC B as s0).bind (ctK K fun r => .ok (jn r))) (sSeq (sFor fi t u) w) := fun Γ hΓ => by
  have h1 := hi Γ hΓ
  have e : sSeq (sFor fi t u) w Γ = match (fi Γ).fl Γ (fun ds => forL t u ds Γ) with | .nx Γ' => w Γ' | o => o := rfl
  rw [e]
  cases x with
  | ok as =>
    have h1 : fi Γ = .ok _ := h1
    rw [h1, fl_ok]
    have h2 := forL_c ht hb as s0 Γ (hΓ.sub hs)
    show RS P ((forC B as s0).bind _) _
    cases eF : forC B as s0 with
    | ok c =>
      rw [eF] at h2
      cases c with
      | nx s =>
        obtain ⟨Γ', h3, h4⟩ := h2
        rw [h3]
        exact h s Γ' h4
      | rt r =>
        have h2 : _ = Fl.rt _ := h2
        rw [h2]
        exact hj r
    | ex z => rw [eF] at h2; obtain ⟨Γ', h3⟩ := h2; rw [h3]; exact ⟨Γ', rfl⟩
    | bad => trivial
  | ex z => have h1 : fi Γ = .ex z := h1; rw [h1]; exact ⟨Γ, rfl⟩
  | bad => trivial
def whT (c : S → Re Bool) (B : S → Re S) : Nat → S → Re S
  | 0, _ => .bad
  | n + 1, s => (c s).bind fun b => if b = true then (B s).bind fun s' => whT c B n s' else .ok s
theorem whL_t {Lh : S → Lk} {c : S → Re Bool} {B : S → Re S} (hc : ∀ s, TR m (Lh s) (c s) ft) (hb : ∀ s, BG m (Lh s) (PN m Lh) (B s) u) : ∀ (n : Nat) (s : S) (Γ : Env'), Ag m (Lh s) Γ → RS (PN m Lh) (whT c B n s) (whL ft u n Γ)
  | 0, s, Γ, hΓ => trivial
  | n + 1, s, Γ, hΓ => by
    have h1 := hc s Γ hΓ
    unfold whL whT
    cases ec : c s with
    | ok b =>
      rw [ec] at h1
      have h1 : ft Γ = .ok b := h1
      rw [h1, fl_ok]
      show RS (PN m Lh) (if b = true then (B s).bind fun s' => whT c B n s' else .ok s) _
      cases b with
      | false => rw [if_neg Bool.false_ne_true, if_neg Bool.false_ne_true]; exact ⟨Γ, rfl, hΓ⟩
      | true =>
        rw [if_pos rfl, if_pos rfl]
        have h3 := hb s Γ hΓ
        cases eB : B s with
        | ok s' =>
          rw [eB] at h3
          obtain ⟨Γ', h4, h5⟩ := h3
          rw [h4]
          exact whL_t hc hb n s' Γ' h5
        | ex z => rw [eB] at h3; obtain ⟨Γ', h4⟩ := h3; rw [h4]; exact ⟨Γ', rfl⟩
        | bad => trivial
    | ex z => rw [ec] at h1; have h1 : ft Γ = .ex z := h1; rw [h1]; exact ⟨Γ, rfl⟩
    | bad => trivial
theorem bg_wh {n : Nat} {Lh : S → Lk} {c : S → Re Bool} {B : S → Re S} {s0 : S} {K : S → Re ω} (hs : subL (Lh s0) L) (hc : ∀ s, TR m (Lh s) (c s) ft) (hb : ∀ s, BG m (Lh s) (PN m Lh) (B s) u) (h : ∀ s, BG m (Lh s) P (K s) w) :
    BG m L P ((whT c B n s0).bind K) (sSeq (sWh n ft u) w) := fun Γ hΓ => by
  have h2 := whL_t hc hb n s0 Γ (hΓ.sub hs)
  have e : sSeq (sWh n ft u) w Γ = match whL ft u n Γ with | .nx Γ' => w Γ' | o => o := rfl
  rw [e]
  cases eF : whT c B n s0 with
  | ok s =>
    rw [eF] at h2
    obtain ⟨Γ', h3, h4⟩ := h2
    rw [h3]
    exact h s Γ' h4
  | ex z => rw [eF] at h2; obtain ⟨Γ', h3⟩ := h2; rw [h3]; exact ⟨Γ', rfl⟩
  | bad => trivial
theorem bg_par {x : Re α} {y : Re β} {K : α → β → Re ω} (hi : i < m) (hj : j < m) (hk1 : k1.ok = true) (hx : ER m L k1 ea x f) (hk2 : k2.ok = true) (hy : ER m L k2 eb y g) (h : ∀ a b, BG m ((j, .sh (eb b)) :: (i, .sh (ea a)) :: L) P (K a b) w) : BG m L P (x.bind fun a => y.bind fun b => K a b) (sSeq (sPar i j f g) w) := fun Γ hΓ => by
  have h1 := hx Γ hΓ
  have h2 := hy Γ hΓ
  unfold sSeq sPar
  cases x with
  | ok a =>
    have h1 : f Γ = .ok _ := h1
    simp only [h1, fl_ok, Kd.share hk1]
    cases y with
    | ok b => have h2 : g Γ = .ok _ := h2; simp only [h2, fl_ok, Kd.share hk2]; exact h a b _ ((hΓ.set hi _).set hj _)
    | ex z => have h2 : g Γ = .ex z := h2; simp only [h2]; exact ⟨Γ, rfl⟩
    | bad => trivial
  | ex z => have h1 : f Γ = .ex z := h1; simp only [h1]; exact ⟨Γ, rfl⟩
  | bad => trivial
theorem bg_asg {t : Tg} {en : α → Lk} {x : Re α} {K : α → Re ω} (ht : TgR m ea t en) (hx : ER m L .sh ea x f) (h : ∀ a, BG m (en a ++ L) P (K a) w) : BG m L P (x.bind K) (sSeq (sAsg t f) w) :=
  bg_step (F := fun r Γ => match r with | .sh d => (match t.set d Γ with | some Γ' => .nx Γ' | none => .bad) | _ => .bad) hx (fun Γ => rfl) fun a Γ hΓ => by
    obtain ⟨Γ1, h1, h2⟩ := ht L a Γ hΓ
    show RS P (K a) (match (match t.set (ea a) Γ with | some Γ' => Fl.nx Γ' | none => .bad) with | .nx Γ' => w Γ' | o => o)
    rw [h1]
    exact h a Γ1 h2
@[irreducible] def appT (xs : List α) (a : α) : Re (List α) := if xs.length < 16777216 then .ok (xs ++ [a]) else .bad
theorem appT_ok {xs : List α} {a : α} (h : xs.length < 16777216) : appT xs a = .ok (xs ++ [a]) := by unfold appT; exact if_pos h
theorem bg_app {xs : List τ} {x : Re τ} {K : List τ → Re ω} (hl : lk i L = some (.fr (eL e xs))) (hk : k.ok = true) (hx : ER m L k e x f) (h : ∀ ys, BG m ((i, .fr (eL e ys)) :: L) P (K ys) w) : BG m L P (x.bind fun a => (appT xs a).bind K) (sSeq (sApp i f) w) := fun Γ hΓ => by
  have h1 := hx Γ hΓ
  have h2 := hΓ.at' i _ hl
  have hi : i < m := by rw [← hΓ.len]; exact (List.getElem?_eq_some_iff.mp h2).1
  have e0 : sApp i f Γ = (f Γ).fl Γ fun r => (share r).fl Γ fun d => if (xs.map e).length < 16777216 then .nx (Γ.set i (some (.fr (.l (xs.map e ++ [d]))))) else .bad := by
    unfold sApp
    rw [h2]
  unfold sSeq
  rw [e0]
  cases x with
  | ok a =>
    have h1 : f Γ = .ok _ := h1
    rw [h1, fl_ok, Kd.share hk, fl_ok]
    show RS P ((appT xs a).bind K) _
    unfold appT
    by_cases hn : xs.length < 16777216
    · rw [if_pos hn, if_pos (by simpa using hn)]
      have := h (xs ++ [a]) _ (hΓ.set hi (.fr (eL e (xs ++ [a]))))
      have e1 : eL e (xs ++ [a]) = .l (xs.map e ++ [e a]) := by show D.l _ = _; rw [List.map_append]; rfl
      rw [e1] at this
      exact this
    · rw [if_neg hn]; trivial
  | ex z => have h1 : f Γ = .ex z := h1; rw [h1]; exact ⟨Γ, rfl⟩
  | bad => trivial
@[irreducible] def putT (xs : List α) (n : Int) (a : α) : Re (List α) := if xs.length < 16777216 ∧ 0 ≤ n ∧ n < 2 ^ 63 then .ok (xs.take n.toNat ++ [a] ++ xs.drop n.toNat) else .bad
theorem bg_ins {xs : List τ} {y : Re Int} {x : Re τ} {K : List τ → Re ω} (hl : lk i L = some (.fr (eL e xs))) (hy : ER m L k1 eI y f) (hk : k.ok = true) (hx : ER m L k e x g) (h : ∀ ys, BG m ((i, .fr (eL e ys)) :: L) P (K ys) w) : BG m L P (y.bind fun n => x.bind fun a => (putT xs n a).bind K) (sSeq (sIns i f g) w) := fun Γ hΓ => by
  have h1 := hy Γ hΓ
  have h3 := hx Γ hΓ
  have h2 := hΓ.at' i _ hl
  have hi : i < m := by rw [← hΓ.len]; exact (List.getElem?_eq_some_iff.mp h2).1
  have e0 : sIns i f g Γ = (f Γ).fl Γ fun r => match r.d with
    | .i k => (g Γ).fl Γ fun r => (share r).fl Γ fun d => if (xs.map e).length < 16777216 ∧ 0 ≤ k ∧ k < 2 ^ 63 then .nx (Γ.set i (some (.fr (.l ((xs.map e).take k.toNat ++ [d] ++ (xs.map e).drop k.toNat))))) else .bad
    | _ => .bad := by
    unfold sIns
    rw [h2]
    all_goals rfl
  unfold sSeq
  rw [e0]
  cases y with
  | ok n =>
    have h1 : f Γ = .ok _ := h1
    rw [h1, fl_ok, Kd.v_d]
    dsimp only
    cases x with
    | ok a =>
      have h3 : g Γ = .ok _ := h3
      rw [h3, fl_ok, Kd.share hk, fl_ok]
      show RS P ((putT xs n a).bind K) _
      unfold putT
      by_cases hn : xs.length < 16777216 ∧ 0 ≤ n ∧ n < 2 ^ 63
      · rw [if_pos hn, if_pos (by simpa using hn)]
        have := h (xs.take n.toNat ++ [a] ++ xs.drop n.toNat) _ (hΓ.set hi (.fr (eL e (xs.take n.toNat ++ [a] ++ xs.drop n.toNat))))
        have e1 : eL e (xs.take n.toNat ++ [a] ++ xs.drop n.toNat) = .l ((xs.map e).take n.toNat ++ [e a] ++ (xs.map e).drop n.toNat) := by show D.l _ = _; rw [List.map_append, List.map_append, List.map_take, List.map_drop]; rfl
        rw [e1] at this
        exact this
      · rw [if_neg hn]; trivial
    | ex z => have h3 : g Γ = .ex z := h3; rw [h3]; exact ⟨Γ, rfl⟩
    | bad => trivial
  | ex z => have h1 : f Γ = .ex z := h1; rw [h1]; exact ⟨Γ, rfl⟩
  | bad => trivial
def setT (xs : List α) (n : Int) (a : α) : Re (List α) := match ixN xs.length n with
  | some j => .ok (xs.set j a) | none => .bad
theorem gSub_ok {xs : List τ} {Γ : Env'} {n : Int} {a : τ} (h2 : Γ[i]? = some (some (.fr (eL e xs)))) (hf : f Γ = .ok (k.v (eI n))) : gSubL i f (e a) Γ = match setT xs n a with | .ok ys => .ok (Γ.set i (some (.fr (eL e ys)))) | _ => .bad := by
  unfold gSubL
  rw [h2]
  dsimp only
  rw [hf, Re.bind_ok, Kd.v_d]
  dsimp only
  unfold setT
  rw [List.length_map]
  cases ixN xs.length n with
  | none => rfl
  | some j => dsimp only; rw [← List.map_set]
theorem setT_len {xs ys : List τ} {n : Int} {a : τ} (h : setT xs n a = .ok ys) : ys.length = xs.length := by
  unfold setT at h
  split at h
  · cases h; exact List.length_set ..
  · cases h
theorem nxT_ex {α : Type} {x : Re α} {z : Exn} : nxT x ≠ .ex z := by unfold nxT; split <;> intro h <;> cases h
theorem bg_sub1 {xs : List τ} {x : Re τ} {y : Re Int} {K : List τ → Re ω} (hl : lk i L = some (.fr (eL e xs))) (hk : k.ok = true) (hx : ER m L k e x g) (hy : ER m L k1 eI y f) (h : ∀ ys, BG m ((i, .fr (eL e ys)) :: L) P (K ys) w) : BG m L P (x.bind fun a => (nxT y).bind fun n => (setT xs n a).bind K) (sSeq (sAsgT (gSubL i f) g) w) := fun Γ hΓ => by
  have h1 := hx Γ hΓ
  have h3 := hy Γ hΓ
  have h2 := hΓ.at' i _ hl
  have hi : i < m := by rw [← hΓ.len]; exact (List.getElem?_eq_some_iff.mp h2).1
  unfold sSeq sAsgT
  cases x with
  | ok a =>
    have h1 : g Γ = .ok _ := h1
    rw [h1, fl_ok, Kd.share hk, fl_ok]
    cases y with
    | ok n =>
      have h3 : f Γ = .ok _ := h3
      rw [gSub_ok h2 h3]
      show RS P ((setT xs n a).bind K) _
      cases es : setT xs n a with
      | ok ys => exact h ys _ (hΓ.set hi _)
      | ex z => unfold setT at es; split at es <;> cases es
      | bad => trivial
    | ex z => trivial
    | bad => trivial
  | ex z => have h1 : g Γ = .ex z := h1; rw [h1]; exact ⟨Γ, rfl⟩
  | bad => trivial
theorem bg_swap {xs : List τ} {x : Re (τ × τ)} {n l : Int} {K : List τ → Re ω} (hl : lk i L = some (.fr (eL e xs))) (hx : ER m L .sh (eP2 e e) x g) (hy : ER m L k1 eI (.ok n) f) (hz : ∀ ys, ER m ((i, .fr (eL e ys)) :: L) k2 eI (.ok l) h) (hr : ∀ ys, BG m ((i, .fr (eL e ys)) :: L) P (K ys) w) :
    BG m L P (x.bind fun p => (setT xs n p.1).bind fun ys => (setT ys l p.2).bind K) (sSeq (sAsgT (gTupL [gSubL i f, gSubL i h]) g) w) := fun Γ hΓ => by
  have h1 := hx Γ hΓ
  have h3 : f Γ = .ok _ := hy Γ hΓ
  have h2 := hΓ.at' i _ hl
  have hi : i < m := by rw [← hΓ.len]; exact (List.getElem?_eq_some_iff.mp h2).1
  unfold sSeq sAsgT
  cases x with
  | ok p =>
    have h1 : g Γ = .ok _ := h1
    rw [h1, fl_ok, Kd.share rfl, fl_ok]
    show RS P ((setT xs n p.1).bind fun ys => (setT ys l p.2).bind K) _
    have e1 : gTupL [gSubL i f, gSubL i h] (eP2 e e p) Γ = (gSubL i f (e p.1) Γ).bind fun Γ' => gAll [gSubL i h] [e p.2] Γ' := rfl
    rw [e1, gSub_ok h2 h3]
    cases es : setT xs n p.1 with
    | ok ys =>
      have hΓ2 := hΓ.set hi (.fr (eL e ys))
      have e2 := hz ys _ hΓ2
      have e2 : h (Γ.set i (some (.fr (eL e ys)))) = .ok _ := e2
      have h4 : (Γ.set i (some (.fr (eL e ys))))[i]? = some (some (.fr (eL e ys))) := List.getElem?_set_self (by rw [hΓ.len]; exact hi)
      show RS P ((setT ys l p.2).bind K) (match (match gAll [gSubL i h] [e p.2] (Γ.set i (some (.fr (eL e ys)))) with | .ok Γ' => Fl.nx Γ' | _ => .bad) with | .nx Γ' => w Γ' | o => o)
      have e3 : gAll [gSubL i h] [e p.2] (Γ.set i (some (.fr (eL e ys)))) = (gSubL i h (e p.2) (Γ.set i (some (.fr (eL e ys))))).bind fun Γ' => .ok Γ' := rfl
      rw [e3, gSub_ok h4 e2]
      cases et : setT ys l p.2 with
      | ok zs =>
        have := hr zs _ (hΓ.set hi (.fr (eL e zs)))
        show RS P (K zs) (w ((Γ.set i (some (.fr (eL e ys)))).set i (some (.fr (eL e zs)))))
        rw [List.set_set]
        exact this
      | ex z => unfold setT at et; split at et <;> cases et
      | bad => trivial
    | ex z => unfold setT at es; split at es <;> cases es
    | bad => trivial
  | ex z => have h1 : g Γ = .ex z := h1; rw [h1]; exact ⟨Γ, rfl⟩
  | bad => trivial
@[irreducible] def dputT (A : List (Int × α)) (n : Int) (v : α) : Re (List (Int × α)) := if A.length < 16777216 then .ok (aput A n v) else .bad
theorem dputT_ok {A : List (Int × α)} {n : Int} {v : α} (h : A.length < 16777216) : dputT A n v = .ok (aput A n v) := by unfold dputT; exact if_pos h
theorem bg_dput {A : List (Int × α)} {x : Re α} {y : Re Int} {K : List (Int × α) → Re ω} (hl : lk i L = some (.fr (eDk ea A))) (hk : k.ok = true) (hx : ER m L k ea x g) (hy : ER m L k1 eI y f) (h : ∀ B, BG m ((i, .fr (eDk ea B)) :: L) P (K B) w) : BG m L P (x.bind fun a => y.bind fun n => (dputT A n a).bind K) (sSeq (sDput i f g) w) := fun Γ hΓ => by
  have h1 := hx Γ hΓ
  have h3 := hy Γ hΓ
  have h2 := hΓ.at' i _ hl
  have hi : i < m := by rw [← hΓ.len]; exact (List.getElem?_eq_some_iff.mp h2).1
  have e0 : sDput i f g Γ = (g Γ).fl Γ fun r => (share r).fl Γ fun d => (f Γ).fl Γ fun k => (match dput (eDk ea A) k.d d with | some t' => .nx (Γ.set i (some (.fr t'))) | none => .bad) := by
    unfold sDput
    rw [h2]
    all_goals rfl
  unfold sSeq
  rw [e0]
  cases x with
  | ok a =>
    have h1 : g Γ = .ok _ := h1
    rw [h1, fl_ok, Kd.share hk, fl_ok]
    cases y with
    | ok n =>
      have h3 : f Γ = .ok _ := h3
      rw [h3, fl_ok, Kd.v_d]
      show RS P ((dputT A n a).bind K) _
      unfold dputT
      by_cases hn : A.length < 16777216
      · rw [if_pos hn]
        have e1 : dput (eDk ea A) (eI n) (ea a) = some (eDk ea (aput A n a)) := by
          show (if (A.map fun p => (.inl p.1 : Key)).length < 16777216 then ((eI n).key?).map fun k => D.dk (kput (A.map fun p => (.inl p.1 : Key)) (A.map fun p => ea p.2) k (ea a)).1 (kput (A.map fun p => (.inl p.1 : Key)) (A.map fun p => ea p.2) k (ea a)).2 else none) = _
          rw [if_pos (by simpa using hn)]
          dsimp only [D.key?, Option.map_some]
          rw [kput_map (ea := ea) inl_inj A n a]
        rw [e1]
        exact h _ _ (hΓ.set hi _)
      · rw [if_neg hn]; trivial
    | ex z => have h3 : f Γ = .ex z := h3; rw [h3]; exact ⟨Γ, rfl⟩
    | bad => trivial
  | ex z => have h1 : g Γ = .ex z := h1; rw [h1]; exact ⟨Γ, rfl⟩
  | bad => trivial
theorem bg_aug {o : Rv → Rv → Re Rv} {a : α} {y : Re β} {t : β → Re τ} {K : τ → Re ω} (hl : lk i L = some (.sh (ea a))) (hy : ER m L k2 eb y g) (ho : ∀ b, RE1 .sh e (t b) (o (.sh (ea a)) (k2.v (eb b)))) (h : ∀ c, BG m ((i, .sh (e c)) :: L) P (K c) w) : BG m L P (y.bind fun b => (t b).bind K) (sSeq (sAug i o g) w) := fun Γ hΓ => by
  have h3 := hy Γ hΓ
  have h2 := hΓ.at' i _ hl
  have hi : i < m := by rw [← hΓ.len]; exact (List.getElem?_eq_some_iff.mp h2).1
  have e0 : eV i Γ = .ok (.sh (ea a)) := by unfold eV; rw [h2]
  unfold sSeq sAug
  rw [e0, fl_ok]
  cases y with
  | ok b =>
    have h3 : g Γ = .ok _ := h3
    rw [h3, fl_ok]
    have h4 := ho b
    show RS P ((t b).bind K) _
    cases et : t b with
    | ok c => rw [et] at h4; have h4 : o _ _ = .ok _ := h4; rw [h4]; exact h c _ (hΓ.set hi _)
    | ex z => rw [et] at h4; have h4 : o _ _ = .ex z := h4; rw [h4]; exact ⟨Γ, rfl⟩
    | bad => trivial
  | ex z => have h3 : g Γ = .ex z := h3; rw [h3]; exact ⟨Γ, rfl⟩
  | bad => trivial
theorem o_aadd {a b : Int} : RE1 .sh eI (.ok (a + b)) (kAug_add (k1.v (eI a)) (k2.v (eI b))) := by cases k1 <;> cases k2 <;> rfl
theorem o_amul {a b : Int} : RE1 .sh eI (mulT a b) (kAug_mul (k1.v (eI a)) (k2.v (eI b))) := by
  have : kAug_mul (k1.v (eI a)) (k2.v (eI b)) = if (-(2 ^ 64) < a ∧ a < 2 ^ 64) ∨ (-(2 ^ 64) < b ∧ b < 2 ^ 64) then oki (a * b) else .bad := by cases k1 <;> cases k2 <;> rfl
  rw [this]
  unfold mulT
  split
  · rfl
  · trivial
theorem o_amod {a b : Int} : RE1 .sh eI (modT a b) (kAug_mod (k1.v (eI a)) (k2.v (eI b))) := by
  have : kAug_mod (k1.v (eI a)) (k2.v (eI b)) = if 0 < b then oki (a % b) else .bad := by cases k1 <;> cases k2 <;> rfl
  rw [this]
  unfold modT
  split
  · rfl
  · trivial
theorem o_adiv {a b : Int} : RE1 .sh eI (divT a b) (kAug_div (k1.v (eI a)) (k2.v (eI b))) := by
  have : kAug_div (k1.v (eI a)) (k2.v (eI b)) = if 0 < b ∧ b < 1073741824 then oki (a / b) else .bad := by cases k1 <;> cases k2 <;> rfl
  rw [this]
  unfold divT
  split
  · rfl
  · trivial
theorem fn_t {T : Re τ} {n mm : Nat} {b : FS} {ds : List D} (hn : ds.length = n) (hm : n ≤ mm) (hk : k.ok = true) (h : BG mm (argL 0 ds) (PT k e) T b) : RE1 k e T (runF n mm b ds) := by
  unfold runF
  rw [if_pos hn]
  have h1 := h _ (ag_start hn hm)
  cases T with
  | ok r =>
    have h1 : _ = Fl.rt _ := h1
    show _ = _
    rw [h1]
    cases k <;> first | rfl | cases hk
  | ex z => obtain ⟨Γ', h1⟩ := h1; show _ = _; rw [h1]
  | bad => trivial
theorem fn_t0 {T : Re Unit} {n mm : Nat} {b : FS} {ds : List D} (hn : ds.length = n) (hm : n ≤ mm) (h : BG mm (argL 0 ds) P0 T b) : RE1 .sh eU T (runF n mm b ds) := by
  unfold runF
  rw [if_pos hn]
  have h1 := h _ (ag_start hn hm)
  cases T with
  | ok r =>
    rcases h1 with ⟨Γ', h1⟩ | h1
    · show _ = _; rw [h1]; rfl
    · show _ = _; rw [h1]; rfl
  | ex z => obtain ⟨Γ', h1⟩ := h1; show _ = _; rw [h1]
  | bad => trivial
end
end Ly
end

section
set_option maxRecDepth 100000
namespace Ly
open PySem PySem.Spec L2
open PyProof.Rows hiding St
section
variable {m : Nat} {L : Lk} {k k1 k2 k3 k4 k5 : Kd} {α β γ δ ε τ ω S : Type} {e : τ → D} {ea : α → D} {eb : β → D} {ec : γ → D} {ed : δ → D} {f g h f4 f5 : FE} {ft gt : FT} {fa fb : FA} {fi : FI}
theorem er_chg {x : Re α} {y : Re β} {z : Re γ} {p : α → β → Bool} {q : β → γ → Bool} {o o' : Rv → Rv → Re Rv} (hx : ER m L k1 ea x f) (hy : ER m L k2 eb y g) (hz : ER m L k3 ec z h) (h1 : ∀ a b, RE1 .sh eB (.ok (p a b)) (o (k1.v (ea a)) (k2.v (eb b)))) (h2 : ∀ b c, RE1 .sh eB (.ok (q b c)) (o' (k2.v (eb b)) (k3.v (ec c)))) :
    ER m L .sh eB (x.bind fun a => y.bind fun b => if p a b = true then z.bind fun c => .ok (q b c) else .ok false) (eCh o o' f g h) := fun Γ hΓ => by
  have e1 := hx Γ hΓ
  have e2 := hy Γ hΓ
  have e3 := hz Γ hΓ
  unfold eCh
  cases x with
  | ok a =>
    have e1 : f Γ = .ok _ := e1
    simp only [e1, Re.bind_ok]
    cases y with
    | ok b =>
      have e2 : g Γ = .ok _ := e2
      have h1 : o _ _ = .ok (.sh (.b (p a b))) := h1 a b
      simp only [e2, Re.bind_ok, h1]
      cases hp : p a b with
      | true =>
        rw [if_pos rfl]
        cases z with
        | ok c => have e3 : h Γ = .ok _ := e3; have h2 : o' _ _ = .ok (.sh (.b (q b c))) := h2 b c; simp only [e3, Re.bind_ok, h2]; rfl
        | ex w => have e3 : h Γ = .ex w := e3; simp only [e3]; rfl
        | bad => trivial
      | false => rfl
    | ex w => have e2 : g Γ = .ex w := e2; simp only [e2]; rfl
    | bad => trivial
  | ex w => have e1 : f Γ = .ex w := e1; simp only [e1]; rfl
  | bad => trivial
theorem o_inF [DecidableEq α] (h : EqOk 11 ea) (h' : EqOk 12 ea) {a : α} {xs : List α} : RE1 .sh eB (.ok (decide (a ∈ xs))) (kIn false (k1.v (ea a)) (k2.v (eL ea xs))) := o_in h h' (neg := false)
theorem o_inT [DecidableEq α] (h : EqOk 11 ea) (h' : EqOk 12 ea) {a : α} {xs : List α} : RE1 .sh eB (.ok (!decide (a ∈ xs))) (kIn true (k1.v (ea a)) (k2.v (eL ea xs))) := o_in h h' (neg := true)
theorem o_inDF {a : Int} {A : List (Int × α)} : RE1 .sh eB (.ok (alook A a).isSome) (kIn false (k1.v (eI a)) (k2.v (eDk ea A))) := o_inD (neg := false)
theorem o_inDT {a : Int} {A : List (Int × α)} : RE1 .sh eB (.ok (!(alook A a).isSome)) (kIn true (k1.v (eI a)) (k2.v (eDk ea A))) := o_inD (neg := true)
variable {tbl : List (Str × Int)}
theorem er_inWF {x : Re Str} (hx : ER m L k1 eS x f) : ER m L .sh eB (x.bind fun w => .ok (tlook tbl w).isSome) (eInW false tbl f) := er_inW (neg := false) hx
theorem er_inWT {x : Re Str} (hx : ER m L k1 eS x f) : ER m L .sh eB (x.bind fun w => .ok (!(tlook tbl w).isSome)) (eInW true tbl f) := er_inW (neg := true) hx
theorem er_inWFp {w : Str} (hx : ER m L k1 eS (.ok w) f) : ER m L .sh eB (.ok (tlook tbl w).isSome) (eInW false tbl f) := er_inW (neg := false) hx
theorem er_inWTp {w : Str} (hx : ER m L k1 eS (.ok w) f) : ER m L .sh eB (.ok (!(tlook tbl w).isSome)) (eInW true tbl f) := er_inW (neg := true) hx
theorem er_getWp {w : Str} (hx : ER m L k1 eS (.ok w) f) : ER m L .sh eI (tgetT tbl w) (eGetW tbl f) := er_getW hx
theorem er_tup2p {a : α} {b : β} (hk1 : k1.ok = true) (hx : ER m L k1 ea (.ok a) f) (hk2 : k2.ok = true) (hy : ER m L k2 eb (.ok b) g) : ER m L .sh (eP2 ea eb) (.ok (a, b)) (eTup (aCons f (aCons g aNil))) := er_tup2 hk1 hx hk2 hy
theorem er_tup3p {a : α} {b : β} {c : γ} (hk1 : k1.ok = true) (hx : ER m L k1 ea (.ok a) f) (hk2 : k2.ok = true) (hy : ER m L k2 eb (.ok b) g) (hk3 : k3.ok = true) (hz : ER m L k3 ec (.ok c) h) : ER m L .sh (eP3 ea eb ec) (.ok (a, b, c)) (eTup (aCons f (aCons g (aCons h aNil)))) := er_tup3 hk1 hx hk2 hy hk3 hz
abbrev eLP2 (ea : α → D) (eb : β → D) : α × β → D := fun p => .l [ea p.1, eb p.2]
abbrev eLP3 (ea : α → D) (eb : β → D) (ec : γ → D) : α × β × γ → D := fun p => .l [ea p.1, eb p.2.1, ec p.2.2]
theorem er_lp2 {x : Re α} {y : Re β} (hk1 : k1.ok = true) (hx : ER m L k1 ea x f) (hk2 : k2.ok = true) (hy : ER m L k2 eb y g) : ER m L .fr (eLP2 ea eb) (x.bind fun a => y.bind fun b => .ok (a, b)) (eLst (aCons f (aCons g aNil))) := fun Γ hΓ => by
  have h1 := hx Γ hΓ
  have h2 := hy Γ hΓ
  rw [eLst_at, aCons_at]
  cases x with
  | ok a =>
    have h1 : f Γ = .ok _ := h1
    simp only [h1, Re.bind_ok, Kd.share hk1, aCons_at]
    cases y with
    | ok b => have h2 : g Γ = .ok _ := h2; simp only [h2, Re.bind_ok, Kd.share hk2]; rfl
    | ex z => have h2 : g Γ = .ex z := h2; simp only [h2]; rfl
    | bad => trivial
  | ex z => have h1 : f Γ = .ex z := h1; rw [h1]; rfl
  | bad => trivial
theorem er_lp2p {a : α} {b : β} (hk1 : k1.ok = true) (hx : ER m L k1 ea (.ok a) f) (hk2 : k2.ok = true) (hy : ER m L k2 eb (.ok b) g) : ER m L .fr (eLP2 ea eb) (.ok (a, b)) (eLst (aCons f (aCons g aNil))) := er_lp2 hk1 hx hk2 hy
theorem er_lp3 {x : Re α} {y : Re β} {z : Re γ} (hk1 : k1.ok = true) (hx : ER m L k1 ea x f) (hk2 : k2.ok = true) (hy : ER m L k2 eb y g) (hk3 : k3.ok = true) (hz : ER m L k3 ec z h) :
    ER m L .fr (eLP3 ea eb ec) (x.bind fun a => y.bind fun b => z.bind fun c => .ok (a, b, c)) (eLst (aCons f (aCons g (aCons h aNil)))) := fun Γ hΓ => by
  have h1 := hx Γ hΓ
  have h2 := hy Γ hΓ
  have h3 := hz Γ hΓ
  rw [eLst_at, aCons_at]
  cases x with
  | ok a =>
    have h1 : f Γ = .ok _ := h1
    simp only [h1, Re.bind_ok, Kd.share hk1, aCons_at]
    cases y with
    | ok b =>
      have h2 : g Γ = .ok _ := h2
      simp only [h2, Re.bind_ok, Kd.share hk2, aCons_at]
      cases z with
      | ok c => have h3 : h Γ = .ok _ := h3; simp only [h3, Re.bind_ok, Kd.share hk3]; rfl
      | ex w => have h3 : h Γ = .ex w := h3; simp only [h3]; rfl
      | bad => trivial
    | ex w => have h2 : g Γ = .ex w := h2; simp only [h2]; rfl
    | bad => trivial
  | ex w => have h1 : f Γ = .ex w := h1; rw [h1]; rfl
  | bad => trivial
theorem er_lp3p {a : α} {b : β} {c : γ} (hk1 : k1.ok = true) (hx : ER m L k1 ea (.ok a) f) (hk2 : k2.ok = true) (hy : ER m L k2 eb (.ok b) g) (hk3 : k3.ok = true) (hz : ER m L k3 ec (.ok c) h) : ER m L .fr (eLP3 ea eb ec) (.ok (a, b, c)) (eLst (aCons f (aCons g (aCons h aNil)))) := er_lp3 hk1 hx hk2 hy hk3 hz
abbrev eZ : List Int → D := fun ns => .z (ns.map .i)
theorem o_slZ {xs : List Int} {lo hi : Option Int} : RE1 .fr (eL eI) (.ok (cut xs lo hi)) (kSl (k1.v (eZ xs)) lo hi) := by
  show kSl _ _ _ = .ok (.fr (.l ((cut xs lo hi).map eI)))
  rw [← cut_map]
  cases k1 <;> rfl
def sameT [DecidableEq α] (ea : α → D) (a b : α) : Re Bool := if a = b ∧ dsame 11 (ea a) = true then .ok true else .bad
theorem sameT_ok [DecidableEq α] {a b : α} (h : a = b) (h2 : dsame 11 (ea a) = true) : sameT ea a b = .ok true := if_pos ⟨h, h2⟩
theorem same_of [DecidableEq α] {F : List D → Re Rv} (hF : ∀ d, dsame 11 d = true → F [d, d] = .ok (.sh (.b true))) (a b : α) : RE1 .sh eB (sameT ea a b) (F [ea a, ea b]) := by
  unfold sameT
  split
  · rename_i h
    rw [← h.1]
    exact hF _ h.2
  · trivial
theorem dsame_L {n : Nat} {xs : List α} (h : ∀ x ∈ xs, dsame n (ea x) = true) (hl : xs.length ≤ 16777216) : dsame (n + 1) (eL ea xs) = true := by
  show ((xs.map ea).all (dsame n) && decide ((xs.map ea).length ≤ 16777216)) = true
  simp only [Bool.and_eq_true, decide_eq_true_eq, List.all_eq_true, List.length_map]
  exact ⟨fun x hx => by obtain ⟨y, hy, rfl⟩ := List.mem_map.mp hx; exact h y hy, hl⟩
theorem dsame_LI {n : Nat} {xs : List Int} (hl : xs.length ≤ 16777216) : dsame (n + 1) (eL eI xs) = true := dsame_L (fun x _ => by cases n <;> rfl) hl
def lfM {τ : Type} (c : Re (List α)) (x : List α → Re (List τ)) : Re (List τ) := match c with
  | .ok as => lcM (x as) | _ => .bad
theorem er_lfm {t : Tg} {own : List Nat} {en : α → Lk} {y : Re (List α)} {c : α → Re Bool} {x : α → Re τ} {fe : FE} (hi : IR m L ea y fi) (ht : TgC m ea t own en) (hk : k.ok = true) (hc : ∀ a, TR m (en a ++ L) (c a) ft) (hx : ∀ a, ER m (en a ++ L) k e (x a) fe) :
    ER m L .fr (eL e) (y.bind fun as => lfM (filT c as) (mapT x)) (eLc fi t ft fe own) := by
  have := er_lf hi ht hk hc hx
  have e1 : (fun as => lfM (filT c as) (mapT x)) = fun as => match filT c as with | .ok as' => lcM (mapT x as') | _ => .bad := by
    funext as
    unfold lfM
    cases filT c as <;> rfl
  rw [e1]
  exact this
def EA (m : Nat) (L : Lk) (e : τ → D) (x : Re τ) (f : FE) : Prop := ∀ Γ, Ag m L Γ → match x with
  | .ok a => ∃ k : Kd, f Γ = .ok (k.v (e a)) | .ex z => f Γ = .ex z | .bad => True
theorem ea_of {x : Re τ} (h : ER m L k e x f) : EA m L e x f := fun Γ hΓ => by
  have h1 := h Γ hΓ
  cases x with
  | ok a => exact ⟨k, h1⟩
  | ex z => exact h1
  | bad => trivial
theorem ea_if {x : Re Bool} {y z : Re τ} (hx : TR m L x ft) (hy : EA m L e y f) (hz : EA m L e z g) : EA m L e (x.bind fun b => if b = true then y else z) (eIf ft f g) := fun Γ hΓ => by
  have h1 := hx Γ hΓ
  cases x with
  | ok a =>
    have h1 : ft Γ = .ok a := h1
    have e1 : eIf ft f g Γ = if a = true then f Γ else g Γ := by show (ft Γ).bind _ = _; rw [h1]; rfl
    rw [e1]
    cases a with
    | true => exact hy Γ hΓ
    | false => exact hz Γ hΓ
  | ex w => have h1 : ft Γ = .ex w := h1; show (ft Γ).bind _ = _; rw [h1]; rfl
  | bad => trivial
theorem er_2a {x : Re α} {y : Re β} {t : α → β → Re τ} {o : Rv → Rv → Re Rv} (hx : ER m L k1 ea x f) (hy : EA m L eb y g) (ho : ∀ (k2 : Kd) a b, RE1 k e (t a b) (o (k1.v (ea a)) (k2.v (eb b)))) : ER m L k e (x.bind fun a => y.bind fun b => t a b) (e2 o f g) := fun Γ hΓ => by
  have h2 := hy Γ hΓ
  cases y with
  | ok b =>
    obtain ⟨k2, h2⟩ := h2
    have hy' : ER m [] k2 eb (.ok b) fun _ => g Γ := fun _ _ => h2
    have hx' : ER m [] k1 ea x fun _ => f Γ := fun _ _ => hx Γ hΓ
    exact er_2 hx' hy' (ho k2) Γ ⟨hΓ.len, fun i r h => by cases h⟩
  | ex z =>
    have hy' : ER m [] .sh eb (.ex z) fun _ => g Γ := fun _ _ => h2
    have hx' : ER m [] k1 ea x fun _ => f Γ := fun _ _ => hx Γ hΓ
    exact er_2 hx' hy' (ho .sh) Γ ⟨hΓ.len, fun i r h => by cases h⟩
  | bad =>
    have h1 := hx Γ hΓ
    cases x with
    | ok a => trivial
    | ex z =>
      have h1 : f Γ = .ex z := h1
      show (f Γ).bind _ = _
      rw [h1]; rfl
    | bad => trivial
abbrev eDs (e : α → D) : List (Str × α) → D := fun A => .dk (A.map fun p => .inr p.1) (A.map fun p => e p.2)
theorem er_k {a : τ} (h : ∀ Γ, f Γ = .ok (k.v (e a))) : ER m L k e (.ok a) f := fun Γ _ => h Γ
theorem inr_inj : ∀ a b : Str, (Sum.inr a : Key) = .inr b → a = b := fun _ _ h => Sum.inr.inj h
def sgetT (A : List (Str × α)) (a : Str) : Re α := match alook A a with
  | some v => .ok v | none => .bad
theorem o_sdget {a : Str} {A : List (Str × α)} : RE1 .sh ea (sgetT A a) (kDget (k1.v (eDs ea A)) (k2.v (eS a))) := by
  unfold sgetT
  split
  · rename_i v hv
    show kDget _ _ = _
    unfold kDget
    rw [Kd.v_d, Kd.v_d]
    dsimp only [dlook, D.key?, Option.map_some]
    rw [kget_map (ea := ea) inr_inj A a, hv]
    rfl
  · trivial
theorem er_sget2 {A : List (Str × α)} {y : Re Str} {z : Re α} (hx : ER m L k1 (eDs ea) (.ok A) f) (hy : ER m L k2 eS y g) (hz : ER m L .sh ea z h) : ER m L .sh ea (y.bind fun w => z.bind fun d => .ok ((alook A w).getD d)) (eGet2 f g h) := fun Γ hΓ => by
  have h1 : f Γ = .ok _ := hx Γ hΓ
  have h2 := hy Γ hΓ
  have h3 := hz Γ hΓ
  unfold eGet2
  simp only [h1, Re.bind_ok, Kd.v_d, D.isD, if_true]
  cases y with
  | ok w =>
    have h2 : g Γ = .ok _ := h2
    simp only [h2, Re.bind_ok]
    cases z with
    | ok d =>
      have h3 : h Γ = .ok _ := h3
      simp only [h3, Re.bind_ok]
      show kGet2 _ _ _ = _
      unfold kGet2
      rw [Kd.v_d, Kd.v_d]
      dsimp only [dlook, D.key?, Option.map_some]
      rw [kget_map (ea := ea) inr_inj A w]
      cases alook A w <;> rfl
    | ex w' => have h3 : h Γ = .ex w' := h3; simp only [h3]; rfl
    | bad => trivial
  | ex w' => have h2 : g Γ = .ex w' := h2; simp only [h2]; rfl
  | bad => trivial
def lastT (c : Str × List Int) : Re Int := match c.2.getLast? with
  | some a => .ok a | none => .bad
theorem o_clLast {c : Str × List Int} : RE1 .sh eI (lastT c) (kIx (k1.v (eCl c)) (k2.v (eI (-1)))) := by
  unfold lastT
  split
  · rename_i a h
    show kIx _ _ = _
    rw [kIxt]
    obtain ⟨w, as⟩ := c
    have hne : as ≠ [] := by rintro rfl; simp at h
    have hl : 0 < as.length := List.length_pos_iff.mpr hne
    have e1 : atI (D.s w :: as.map D.i) (-1) = some (.i a) := by
      unfold atI ixN
      rw [if_neg (by decide)]
      simp only [List.length_cons, List.length_map]
      rw [if_pos (by omega)]
      have e0 : ((-1 : Int) + ((as.length + 1 : Nat) : Int)).toNat = (as.length - 1) + 1 := by omega
      rw [List.getLast?_eq_getElem?] at h
      have h : as[as.length - 1]? = some a := h
      show (D.s w :: as.map D.i)[((-1 : Int) + ((as.length + 1 : Nat) : Int)).toNat]? = _
      rw [e0, List.getElem?_cons_succ, List.getElem?_map, h]
      rfl
    unfold ixR
    rw [e1]
    rfl
  · trivial
theorem ir_r1p {b : Int} (hx : ER m L .sh eI (.ok b) f) : IR m L eI (rngT 0 b) (itR1 f) := ir_r1 hx
theorem ir_r2p {a b : Int} (hx : ER m L .sh eI (.ok a) f) (hy : ER m L .sh eI (.ok b) g) : IR m L eI (rngT a b) (itR2 f g) := ir_r2 hx hy
theorem ir_r3p {a b c : Int} (hx : ER m L .sh eI (.ok a) f) (hy : ER m L .sh eI (.ok b) g) (hz : ER m L .sh eI (.ok c) h) : IR m L eI (rng3T a b c) (itR3 f g h) := ir_r3 hx hy hz
theorem ir_enp {xs : List τ} (hk : k1.ok = true) (hx : ER m L k1 (eL e) (.ok xs) f) : IR m L (eP2 eI e) (.ok (enumI xs)) (itE f) := ir_en hk hx
theorem ir_sp {x : Str} (hx : ER m L .sh eS (.ok x) f) : IR m L eS (.ok (signsT x)) (itA f) := ir_s hx
theorem er_idxp {a : List Int} {b : Int} (hx : ER m L k1 (eL eI) (.ok a) f) (hy : ER m L k2 eI (.ok b) g) : ER m L .sh eI (idxT a b) (eIdx f g) := er_idx hx hy
theorem or_ip {a : Int} (hx : ER m L .sh eI (.ok a) f) : OR' m L (.ok (some a)) (oIs f) := or_i hx
theorem er_slp {a : α} {l u : Option Int} {z : Re τ} {fl fh : FO} (hx : ER m L k1 ea (.ok a) f) (hl : OR' m L (.ok l) fl) (hh : OR' m L (.ok u) fh) (ho : RE1 k e z (kSl (k1.v (ea a)) l u)) : ER m L k e z (eSl f fl fh) := fun Γ hΓ => by
  have h1 : f Γ = .ok _ := hx Γ hΓ
  have h2 : fl Γ = .ok _ := hl Γ hΓ
  have h3 : fh Γ = .ok _ := hh Γ hΓ
  rw [eSl_at]
  simp only [h1, h2, h3, Re.bind_ok]
  exact ho
@[simp] theorem forT_nil {B : S → α → Re S} {s : S} : forT B [] s = .ok s := rfl
theorem forT_cons {B : S → α → Re S} {a : α} {as : List α} {s : S} : forT B (a :: as) s = (B s a).bind fun s' => forT B as s' := rfl
theorem forT_unit {B : Unit → α → Re Unit} : ∀ {as : List α}, (∀ a ∈ as, B () a = .ok ()) → forT B as () = .ok ()
  | [], _ => rfl
  | a :: as, h => by rw [forT_cons, h a List.mem_cons_self]; exact forT_unit fun b hb => h b (List.mem_cons_of_mem _ hb)
theorem forT_fold {B : S → α → Re S} {st : S → α → S} {I : S → Prop} : ∀ {as : List α} {s : S}, I s → (∀ s a, a ∈ as → I s → B s a = .ok (st s a) ∧ I (st s a)) → forT B as s = .ok (as.foldl st s) ∧ I (as.foldl st s)
  | [], s, h, _ => ⟨rfl, h⟩
  | a :: as, s, h, hs => by
    obtain ⟨h1, h2⟩ := hs s a List.mem_cons_self h
    rw [forT_cons, h1]
    exact forT_fold h2 fun s b hb => hs s b (List.mem_cons_of_mem _ hb)
theorem forT_inv {B : S → α → Re S} {as : List α} {I : Nat → S → Prop} : ∀ (n j : Nat) {s : S}, j + n = as.length → I j s → (∀ i (h : i < as.length) s, j ≤ i → I i s → ∃ s', B s as[i] = .ok s' ∧ I (i + 1) s') → ∃ s', forT B (as.drop j) s = .ok s' ∧ I as.length s'
  | 0, j, s, hj, h, _ => by
    have : j = as.length := by omega
    subst this
    exact ⟨s, by rw [List.drop_length]; rfl, h⟩
  | n + 1, j, s, hj, h, hs => by
    have hl : j < as.length := by omega
    obtain ⟨s1, h1, h2⟩ := hs j hl s (Nat.le_refl _) h
    obtain ⟨s2, h3, h4⟩ := forT_inv n (j + 1) (by omega) h2 fun i hi s hij => hs i hi s (by omega)
    exact ⟨s2, by rw [List.drop_eq_getElem_cons hl, forT_cons, h1]; exact h3, h4⟩
theorem forT_num {B : S → α → Re S} {as : List α} {I : Nat → S → Prop} {s : S} (h : I 0 s) (hs : ∀ i (h : i < as.length) s, I i s → ∃ s', B s as[i] = .ok s' ∧ I (i + 1) s') : ∃ s', forT B as s = .ok s' ∧ I as.length s' := by
  have := forT_inv (B := B) (I := I) as.length 0 (by omega) h fun i hi s _ => hs i hi s
  rwa [List.drop_zero] at this
theorem mapT_ok {x : α → Re τ} {g : α → τ} : ∀ {as : List α}, (∀ a ∈ as, x a = .ok (g a)) → mapT x as = .ok (as.map g)
  | [], _ => rfl
  | a :: as, h => by
    unfold mapT
    rw [h a List.mem_cons_self]
    dsimp only
    rw [mapT_ok fun b hb => h b (List.mem_cons_of_mem _ hb)]
    rfl
theorem lcM_ok {ys : List τ} (h : ys.length ≤ 16777216) : lcM (.ok ys) = .ok ys := lcP_ok h
@[simp] theorem nxT_ok {a : α} : nxT (.ok a) = .ok a := rfl
theorem re_true {T : Re Bool} {y : Re Rv} (h : RE1 .sh eB T y) (ht : T = .ok true) : y = .ok (.sh (.b true)) := by
  rw [ht] at h
  exact h
theorem rangeI_len (a b : Int) : (rangeI a b).length = (b - a).toNat := by simp [rangeI]
theorem mem_rangeI {a b x : Int} : x ∈ rangeI a b ↔ a ≤ x ∧ x < b := by
  simp only [rangeI, List.mem_map, List.mem_range]
  constructor
  · rintro ⟨i, h, rfl⟩; omega
  · rintro ⟨h1, h2⟩; exact ⟨(x - a).toNat, by omega, by omega⟩
theorem rangeI_get {a b : Int} {i : Nat} (h : i < (rangeI a b).length) : (rangeI a b)[i] = a + (i : Nat) := by simp [rangeI]
theorem rngT_small {a b : Int} (h1 : -4000000000000000000 ≤ a ∧ a ≤ 4000000000000000000) (h2 : -4000000000000000000 ≤ b ∧ b ≤ 4000000000000000000) : rngT a b = .ok (rangeI a b) := rngT_ok (by unfold rgb; exact decide_eq_true ⟨by omega, by omega, by omega, by omega⟩)
theorem lrT_small {a b : Int} (h1 : -4000000000000000000 ≤ a ∧ a ≤ 4000000000000000000) (h2 : -4000000000000000000 ≤ b ∧ b ≤ 4000000000000000000) (h3 : b - a ≤ 16777216) : lrT a b = .ok (rangeI a b) := lrT_ok (by unfold rgOk; exact decide_eq_true ⟨by omega, by omega, by omega, by omega, by omega⟩)
end
end Ly
end

section
set_option maxRecDepth 100000
namespace Ly
open PySem PySem.Spec L2
open PyProof.Rows hiding St
def keyD : Key → D
  | .inl z => .i z | .inr x => .s x
theorem Reps.keysR {K : PySem.W.Frag} {G : Hp} : ∀ ks : List Key, Reps K G (ks.map kV) (ks.map keyD)
  | [] => .nil
  | .inl z :: ks => .cons (.i z) (Reps.keysR ks)
  | .inr x :: ks => .cons (.s x) (Reps.keysR ks)
section
variable [Tb] {X : Cx} {c : LC} {a b e : Expr} {f g h : FE} {pos : Pos}
def kListD : Rv → Re Rv := fun x => match x with
  | .fr (.dk ks _) => .ok (.fr (.l (ks.map keyD)))
  | .bo (.dk ks _) => .ok (.fr (.l (ks.map keyD)))
  | _ => .bad
theorem re_listD (cy : Cy X c) {p : Pos} (hg : Gl X "list") (hm : X.mg "list" = none) (ha : PE X a (tE c f)) (hs : starEach [a] X.env = [(false, eval a X.env)] := by rfl) : PE X (.Call (.Name "list" p) [a] [] pos) (tE c (e1 kListD f)) := by
  refine re_t1 (r := rListD) (call_list_dK cy.calm) ?_ hg hm (by decide +kernel) ha (by decide) (by decide) hs
  intro σ G H x rx Q gh bh hx q
  have main : ∀ (p : Addr) (ks : List Key) (ds : List D), Own c.K G H p (.dk ks ds) → Post c (.ok (.fr (.l (ks.map keyD)))) σ G H Q → rListD [.ref p] H Q := by
    intro p ks ds o q
    cases o with
    | dk h1 h2 h3 =>
      subst h2
      refine ⟨p, _, rfl, h1, ?_⟩
      have r := Reps.keysR (K := c.K) (G := G) (List.map (·.1) ‹List (Key × V)›)
      rw [List.map_map] at r
      exact post_lst bh gh q r
  unfold kListD at q
  split at q
  · rename_i ks ds
    obtain ⟨p, rfl, _, _, o⟩ := hx
    exact main p ks ds o q
  · rename_i ks ds
    obtain ⟨p, rfl, _, _, o⟩ := hx
    exact main p ks ds o q
  · exact q.elim
end
section
variable {m : Nat} {L : Lk} {k k1 k2 k3 k4 k5 : Kd} {α β γ δ ε τ ω S : Type} {e : τ → D} {ea : α → D} {eb : β → D} {f g h : FE}
theorem o_listD {A : List (Int × α)} (hk : k1 ≠ .sh) : RE1 .fr (eL eI) (.ok (A.map fun p => p.1)) (kListD (k1.v (eDk ea A))) := by
  have : (A.map fun p => (.inl p.1 : Key)).map keyD = (A.map fun p => p.1).map eI := by rw [List.map_map, List.map_map]; rfl
  cases k1 with
  | sh => exact absurd rfl hk
  | fr => show Re.ok (Rv.fr (D.l _)) = Re.ok (Rv.fr (D.l _)); rw [this]
  | bo => show Re.ok (Rv.fr (D.l _)) = Re.ok (Rv.fr (D.l _)); rw [this]
end
end Ly
end

section
set_option maxRecDepth 100000
namespace SumG
open PySem PySem.Spec PyProof.Rows
open Sem (wp)
section
variable {prog : Program} {w : World} {A : Around} {R : Result → Shared → Prop} {I : Addr} {fp wr : List Addr} {n : Nat} {P : Nat → Value → Prop} {St : Nat → Heap → Prop}
theorem code_sumG (W : Walks prog w A.in1 I fp wr n P St) (S : Addr) (hSf : S ∉ fp) (Ac : Nat → Addr → Heap → Prop)
    (hAk : ∀ i p h h', Ac i p h → (∀ b o, b ∉ S :: wr → h.get? b = some o → h'.get? b = some o) → Ac i p h')
    (hAdd : ∀ i v p (s : Shared) (Q : Value → Shared → Prop) (E : Value → Shared → Prop), i < n → P i v → Ac i p s.heap → S < s.heap.objs.size →
      (∀ h' x, (∀ b o, s.heap.get? b = some o → h'.get? b = some o) → Ac (i + 1) x h' → Q (.ref x) { s with heap := h' }) → wpAny (model prog w) A.in1 (binaryOp .Add (.ref p) v) Q E s) :
    ∀ (k i : Nat) (s : Shared) (p : Addr) (c : Nat), n - i = k → i ≤ n → St i s.heap → Ac i p s.heap → s.heap.get? S = some { cls := .type "list", dict := none, data := .seq #[.ref p] c, slots := #[] } →
    (∀ h' tk q, (∀ b o, b ∉ S :: wr → s.heap.get? b = some o → h'.get? b = some o) → Ac n q h' → R (.ok (.ret (.ref q))) { s with heap := h', toks := tk }) →
    codeAny (model prog w) A (.builtin "sum.loop" ⟨[.ref I, .ref S, rawInt 2, rawInt 0], []⟩) R s := by
  have hSw : S ∉ wr := fun h => hSf (W.sub _ h)
  have hsub : ∀ b, b ∉ S :: wr → b ∉ wr := fun b hb h => hb (List.mem_cons_of_mem _ h)
  have hne : ∀ b, b ∉ S :: wr → S ≠ b := fun b hb e => hb (by rw [e]; exact List.mem_cons_self)
  intro k
  induction k with
  | zero =>
    intro i s p c hk hi hst hA hS hR
    have hin : i = n := by omega
    subst hin
    refine codeAny_builtin F.entry_sum_loop ?_
    rw [Around.under_plainId F.plain_sum_loop _]
    show wpAny _ A.in1 (seqItems? (.ref S) >>= _) _ _ s
    refine wpAny_bind (wpAny_seqItems hS rfl ?_)
    show wpAny _ A.in1 (tryCatch (pyNext (.ref I)) _ >>= _) _ _ s
    refine wpAny_bind (wpAny_tryCatch (W.done s _ _ hst fun h' tk hm => ?_))
    have hm' : ∀ b o, b ∉ S :: wr → s.heap.get? b = some o → h'.get? b = some o := fun b o hb e => hm b o (hsub b hb) e
    exact wpAny_pure (hR h' tk p hm' (hAk _ _ _ _ hA hm'))
  | succ k ih =>
    intro i s p c hk hi hst hA hS hR
    have hlt : i < n := by omega
    refine codeAny_builtin F.entry_sum_loop ?_
    rw [Around.under_plainId F.plain_sum_loop _]
    show wpAny _ A.in1 (seqItems? (.ref S) >>= _) _ _ s
    refine wpAny_bind (wpAny_seqItems hS rfl ?_)
    show wpAny _ A.in1 (tryCatch (pyNext (.ref I)) _ >>= _) _ _ s
    refine wpAny_bind (wpAny_tryCatch (W.item i s _ _ hlt hst fun v h1 tk hP hst1 hm => ?_))
    have hm' : ∀ b o, b ∉ S :: wr → s.heap.get? b = some o → h1.get? b = some o := fun b o hb e => hm b o (hsub b hb) e
    have hA1 := hAk _ _ _ _ hA hm'
    have hS1 := hm S _ hSw hS
    show wpAny _ A.in1 ((holding [v] (binaryOp .Add (.ref p) v)).attempt >>= _) _ _ _
    refine wpAny_bind (wpAny_attempt (wpAny_holding (hAdd i v p _ _ _ hlt hP hA1 (Heap.lt_size hS1) fun h2 x k2 hA2 => ?_)))
    have hS2 := k2 S _ hS1
    show wpAny _ A.in1 (updateSeq S (fun _ => #[.ref x]) >>= _) _ _ _
    refine wpAny_bind (wpAny_updateSeq hS2 rfl ?_)
    have hS3 := Heap.get?_update_self (Obj.mapSeq fun _ => #[Value.ref x]) hS2 rfl
    refine wpAny_bind (wpAny_letGo ?_)
    have k3 : ∀ b o, b ∉ S :: wr → h2.get? b = some o → ((h2.update S (Obj.mapSeq fun _ => #[Value.ref x])).update S (Obj.mapSeq fun _ => #[Value.ref x])).get? b = some o := fun b o hb e =>
      (Heap.get?_update_other _ _ (hne b hb)).trans ((Heap.get?_update_other _ _ (hne b hb)).trans e)
    refine wpAny_bind (wpAny_updateSeq hS3 rfl (wpAny_pure ⟨plainId_quiet F.plain_sum_loop _, ih (i + 1) _ x _ (by omega) hlt (W.frame _ _ _ hst1 fun b hb o e => ?_) (hAk _ _ _ _ hA2 k3) (Heap.get?_update_self _ hS3 rfl) fun h' tk' q hk' hq => ?_⟩))
    · have hn : S ≠ b := fun h => hSf (by rw [h]; exact hb)
      exact (Heap.get?_update_other _ _ hn).trans ((Heap.get?_update_other _ _ hn).trans (k2 b o e))
    · exact hR h' tk' q (fun b o hb e => hk' b o hb (k3 b o hb (k2 b o (hm' b o hb e)))) hq
end
section
variable {prog : Program} {w : World} {A : Around} {E : Value → Shared → Prop} {s : Shared}
theorem sub_list_str : isSubtype (.type "list") (.type "str") = pure false := by rw [isSubtype_type]; kernel_rfl
theorem sub_list_bytes : isSubtype (.type "list") (.type "bytes") = pure false := by rw [isSubtype_type]; kernel_rfl
theorem sub_list_bytearray : isSubtype (.type "list") (.type "bytearray") = pure false := by rw [isSubtype_type]; kernel_rfl
theorem sub_tuple_str : isSubtype (.type "tuple") (.type "str") = pure false := by rw [isSubtype_type]; kernel_rfl
theorem sub_tuple_bytes : isSubtype (.type "tuple") (.type "bytes") = pure false := by rw [isSubtype_type]; kernel_rfl
theorem sub_tuple_bytearray : isSubtype (.type "tuple") (.type "bytearray") = pure false := by rw [isSubtype_type]; kernel_rfl
theorem args_sum2 (a b : Value) : argsOk "sum" ⟨[a, b], []⟩ := by unfold argsOk; kernel_rfl
theorem call_sumG {l b : Addr} {T : String} {ob : Obj} {items : Array Value} {Q : Value → Shared → Prop} (hh : A.handled = none) (hl : s.heap.IsList l items) (hb : s.heap.get? b = some ob) (hc : ob.cls = .type T)
    (h1 : isSubtype (.type T) (.type "str") = pure false) (h2 : isSubtype (.type T) (.type "bytes") = pure false) (h3 : isSubtype (.type T) (.type "bytearray") = pure false)
    (Ac : Nat → Addr → Heap → Prop)
    (hA0 : ∀ h' : Heap, (∀ b o, s.heap.get? b = some o → h'.get? b = some o) → Ac 0 b h')
    (hAk : ∀ (i : Nat) (p : Addr) (h h' : Heap), Ac i p h → (∀ b o, b ≠ s.heap.objs.size → b ≠ s.heap.objs.size + 1 → h.get? b = some o → h'.get? b = some o) → Ac i p h')
    (hAdd : ∀ (i : Nat) (v : Value) (p : Addr) (s' : Shared) (Q : Value → Shared → Prop) (E : Value → Shared → Prop), items[i]? = some v → Ac i p s'.heap → s.heap.objs.size + 1 < s'.heap.objs.size →
      (∀ (h' : Heap) (x : Addr), (∀ b o, s'.heap.get? b = some o → h'.get? b = some o) → Ac (i + 1) x h' → Q (.ref x) { s' with heap := h' }) → wpAny (model prog w) A.in1 (binaryOp .Add (.ref p) v) Q E s')
    (hQ : ∀ (h' : Heap) (tk : Nat) (q : Addr), (∀ b o, s.heap.get? b = some o → h'.get? b = some o) → Ac items.size q h' → Q (.ref q) { s with heap := h', toks := tk }) :
    wpAny (model prog w) A (call (.builtin "sum") [.ref l, .ref b]) Q E s := by
  have bl : b < s.heap.objs.size := Heap.lt_size hb
  have ll : l < s.heap.objs.size := let ⟨_, e, _⟩ := hl; Heap.lt_size e
  refine call_function_tree F.kind_sum F.plain_sum F.entry_sum (args_sum2 _ _) ?_
  unfold Builtin.«sum»
  simp only [List.length_cons, List.length_nil]
  rw [if_neg (by decide)]
  refine wpAny_bind (wpAny_of_eq (show Builtin.Builtins.bindParams "sum" ["start"] 0 ⟨[.ref b], []⟩ = pure [some (.ref b)] from rfl) ?_)
  refine wpAny_bind (wpAny_pyIter_list hl ?_)
  refine wpAny_bind (wpAny_pure ?_)
  have k1 : ∀ b o, s.heap.get? b = some o → (s.heap.push { cls := .type "list_iterator", data := .fields #[.ref l, .int 0 0] }).get? b = some o := fun b o e => Heap.get?_push_of_some _ e
  have hT : ∀ s' : Shared, s'.heap = s.heap.push { cls := .type "list_iterator", data := .fields #[.ref l, .int 0 0] } → s'.TypeIs (.ref b) T := fun s' e => ⟨ob, by rw [e]; exact k1 _ _ hb, hc⟩
  simp only [List.forIn_cons, List.forIn_nil]
  refine wpAny_bind (wpAny_bind (wpAny_bind (wpAny_isInstance (T := T) (b := false) (hT _ rfl) h1 ?_)))
  simp only [Bool.false_eq_true, if_false]
  refine wpAny_pure (wpAny_bind (wpAny_bind (wpAny_isInstance (T := T) (b := false) (hT _ rfl) h2 ?_)))
  simp only [Bool.false_eq_true, if_false]
  refine wpAny_pure (wpAny_bind (wpAny_bind (wpAny_isInstance (T := T) (b := false) (hT _ rfl) h3 ?_)))
  simp only [Bool.false_eq_true, if_false]
  refine wpAny_pure (wpAny_pure ?_)
  refine wpAny_bind (wpAny_newObj_type ?_)
  have sz1 : (s.heap.push { cls := .type "list_iterator", data := .fields #[.ref l, .int 0 0] }).objs.size = s.heap.objs.size + 1 := Heap.size_push ..
  have W := Walks.list (prog := prog) (w := w) (A := A.in1) hh s.heap.objs.size l (Nat.ne_of_lt ll) items
  have k2 : ∀ b o, s.heap.get? b = some o → ((s.heap.push { cls := .type "list_iterator", data := .fields #[.ref l, .int 0 0] }).push { cls := .type "list", data := .seq #[.ref b] }).get? b = some o := fun b o e => Heap.get?_push_of_some _ (k1 b o e)
  refine wpAny_pure ⟨plainId_quiet F.plain_sum_loop _, code_sumG W _ ?_ Ac ?_ ?_ items.size 0 _ b _ rfl (Nat.zero_le _) ?_ (hA0 _ fun c o e => Heap.get?_push_of_some _ (k1 c o e)) (Heap.get?_push_size _ rfl) ?_⟩
  · rw [sz1]
    intro hm
    simp only [List.mem_cons, List.not_mem_nil, or_false] at hm
    rcases hm with h | h
    · exact Nat.succ_ne_self _ h
    · exact Nat.ne_of_gt (Nat.lt_succ_of_lt ll) h
  · intro i p h h' hA hk
    refine hAk i p h h' hA fun c o n1 n2 e => hk c o ?_ e
    rw [sz1]
    simp only [List.mem_cons, List.not_mem_nil, or_false, not_or]
    exact ⟨n2, n1⟩
  · intro i v p s' Q' E' _ hv hA hlt hq
    rw [sz1] at hlt
    exact hAdd i v p s' Q' E' hv hA hlt hq
  · exact ⟨⟨_, Heap.get?_push_of_some _ (Heap.get?_push_size _ rfl), rfl, rfl⟩, (hl.push _).push _⟩
  · intro h' tk q hk hA
    refine hQ h' tk q (fun c o e => hk c o ?_ (Heap.get?_push_of_some _ (k1 c o e))) hA
    have hc := Heap.lt_size e
    rw [sz1]
    simp only [List.mem_cons, List.not_mem_nil, or_false, not_or]
    exact ⟨Nat.ne_of_lt (Nat.lt_succ_of_lt hc), Nat.ne_of_lt hc⟩
end
end SumG
namespace Ly
open PySem PySem.Spec L2
open PyProof.Rows hiding St
variable [Tb]
section
variable {X : Cx}
def rSumL (K : PySem.W.Frag) : List V → Hp → VK → Prop := fun vs H Q => ∃ (a b : Addr) (as : List Addr) (xs0 : List V) (xss : List (List V)), vs = [V.ref a, V.ref b] ∧ SqL K H a (as.map V.ref) ∧ H b = some (.lst xs0) ∧
  Paired (fun p xs => H p = some (.lst xs)) as xss ∧ (xs0 ++ xss.flatten).length ≤ sizeLine ∧ (as = [] → Q (.ref b) H) ∧ (∀ p, H p = none → Q (.ref p) (upd H p (.lst (xs0 ++ xss.flatten))))
theorem Vals.refs : ∀ {as : List Addr} {us : List Value}, Vals (as.map V.ref) us → us = as.map Value.ref
  | [], _, .nil => rfl
  | a :: as, _, .cons r t => by cases r; rw [List.map_cons, Vals.refs t]
theorem Paired.getP {α β : Type} {F : α → β → Prop} : ∀ {l : List α} {m : List β} {i : Nat} {a : α}, Paired F l m → l[i]? = some a → ∃ b, m[i]? = some b ∧ F a b
  | _, _, _, _, .nil, e => by simp at e
  | _, _, 0, _, .cons r _, e => by simp at e; subst e; exact ⟨_, rfl, r⟩
  | _, _, i + 1, a, .cons _ t, e => by
    obtain ⟨b, h1, h2⟩ := Paired.getP (i := i) (a := a) t (by simpa using e)
    exact ⟨b, by simpa using h1, h2⟩
theorem take_flat {α : Type} {xss : List (List α)} {i : Nat} {xs : List α} (h : xss[i]? = some xs) : (xss.take (i + 1)).flatten = (xss.take i).flatten ++ xs := by
  obtain ⟨hi, e⟩ := List.getElem?_eq_some_iff.mp h
  rw [List.take_succ, List.getElem?_eq_getElem hi, e]
  simp
theorem take_flat_le {α : Type} (xss : List (List α)) : ∀ (i : Nat), ((xss.take i).flatten).length ≤ xss.flatten.length := fun i => by
  conv => rhs; rw [← List.take_append_drop i xss, List.flatten_append, List.length_append]
  exact Nat.le_add_right _ _
theorem cr_sumL (hc : X.calm = true) : CallR X (.builtin "sum") (rSumL X.K) := by
  intro pins s σ H vs us Q I r h
  obtain ⟨a, b, as, xs0, xss, rfl, hs, hb, hp, hz, q0, q1⟩ := h
  obtain ⟨its, rv, hl, _⟩ := I.list hs
  have e := Vals.refs rv
  subst e
  obtain ⟨_, ib, nb, rb, _, eb⟩ := I.lstM hb
  have hn : as.length = xss.length := Paired.length hp
  cases r with
  | cons r1 r2 =>
  cases r2 with
  | cons r2 r3 =>
  cases r3
  cases r1
  cases r2
  have blt : b < s.heap.objs.size := Heap.lt_size eb
  refine SumG.call_sumG (T := "list") (I.ok.hd hc) hl.isList eb rfl SumG.sub_list_str SumG.sub_list_bytes SumG.sub_list_bytearray
    (fun i p h => (∀ b o, s.heap.get? b = some o → h.get? b = some o) ∧ ((i = 0 ∧ p = b) ∨ s.heap.objs.size + 1 < p) ∧ ∃ (its : List Value) (n : Nat), h.get? p = some { cls := .type "list", data := .seq its.toArray n } ∧ Vals (xs0 ++ (xss.take i).flatten) its)
    ?_ ?_ ?_ ?_
  · intro h' hk
    refine ⟨hk, .inl ⟨rfl, rfl⟩, ib, nb, hk _ _ eb, ?_⟩
    simpa using rb
  · rintro i p h h' ⟨k0, hp, its, n, e, rr⟩ hk
    refine ⟨fun c o e => hk c o (Nat.ne_of_lt (Heap.lt_size e)) (Nat.ne_of_lt (Nat.lt_succ_of_lt (Heap.lt_size e))) (k0 c o e), hp, its, n, hk p _ ?_ ?_ e, rr⟩
    · rcases hp with ⟨_, rfl⟩ | hp
      · exact Nat.ne_of_lt blt
      · exact Nat.ne_of_gt (Nat.lt_of_succ_lt hp)
    · rcases hp with ⟨_, rfl⟩ | hp
      · exact Nat.ne_of_lt (Nat.lt_succ_of_lt blt)
      · exact Nat.ne_of_gt hp
  · rintro i v p s' Q' E' hv ⟨k0, hpp, its, n, e, rr⟩ hlt hq
    have hv' : (as.map Value.ref)[i]? = some v := by simpa using hv
    rw [List.getElem?_map] at hv'
    obtain ⟨ai, ea, rfl⟩ := Option.map_eq_some_iff.mp hv'
    obtain ⟨xs, ex, hx⟩ := Paired.getP hp ea
    obtain ⟨_, i2, n2, r2, _, e2⟩ := I.lstM hx
    have ra := rr.append r2
    rw [List.append_assoc, ← take_flat ex] at ra
    have hz2 : its.length + i2.length ≤ sizeLine := by
      rw [← List.length_append, ← ra.length, List.length_append]
      rw [List.length_append] at hz
      exact Nat.le_trans (Nat.add_le_add_left (take_flat_le xss (i + 1)) _) hz
    refine PySem.P.add_list e (k0 _ _ e2) ?_ (by rw [List.size_toArray, List.size_toArray]; exact hz2)
    have ee : its.toArray ++ i2.toArray = (its ++ i2).toArray := by simp
    rw [ee]
    refine hq _ _ (fun c o e => Heap.get?_push_of_some _ e) ⟨fun c o e => Heap.get?_push_of_some _ (k0 c o e), .inr hlt, its ++ i2, 0, Heap.get?_push_size _ rfl, ra⟩
  · rintro h' tk q hk ⟨k0, hq, its, n, e, rr⟩
    rw [List.size_toArray, List.length_map, hn, List.take_length] at rr
    rw [List.size_toArray, List.length_map] at hq
    rcases hq with ⟨h0, rfl⟩ | hq
    · exact ⟨.ref q, H, I.kept hk, rfl, q0 (List.eq_nil_of_length_eq_zero h0)⟩
    · have hq' : s.heap.objs.size ≤ q := Nat.le_of_lt (Nat.lt_of_succ_lt hq)
      exact ⟨.ref q, _, I.laid (o := .lst (xs0 ++ xss.flatten)) hk hq' ⟨hz, its, n, rr, e⟩, rfl, q1 q (I.hok.fresh hq')⟩
def rSumT (K : PySem.W.Frag) : List V → Hp → VK → Prop := fun vs H Q => ∃ (a b : Addr) (as : List Addr) (xs0 : List V) (xss : List (List V)), vs = [V.ref a, V.ref b] ∧ SqL K H a (as.map V.ref) ∧ SqT K H b xs0 ∧
  Paired (fun p xs => SqT K H p xs) as xss ∧ (xs0 ++ xss.flatten).length ≤ sizeLine ∧ (∀ p, p ∈ b :: as → (∀ zs, SqT K H p zs → zs = xs0 ++ xss.flatten) → Q (.ref p) H) ∧ (∀ p, H p = none → Q (.ref p) (upd H p (.tup (xs0 ++ xss.flatten))))
theorem cr_sumT (hc : X.calm = true) : CallR X (.builtin "sum") (rSumT X.K) := by
  intro pins s σ H vs us Q I r h
  obtain ⟨a, b, as, xs0, xss, rfl, hs, hb, hp, hz, q0, q1⟩ := h
  obtain ⟨its, rv, hl, _⟩ := I.list hs
  have e := Vals.refs rv
  subst e
  obtain ⟨ib, rb, tb, _⟩ := I.tuple hb
  have hn : as.length = xss.length := Paired.length hp
  cases r with
  | cons r1 r2 =>
  cases r2 with
  | cons r2 r3 =>
  cases r3
  cases r1
  cases r2
  obtain ⟨ob, eb, cb, _⟩ := id tb
  refine SumG.call_sumG (T := "tuple") (I.ok.hd hc) hl.isList eb cb SumG.sub_tuple_str SumG.sub_tuple_bytes SumG.sub_tuple_bytearray
    (fun i p h => (∀ b o, s.heap.get? b = some o → h.get? b = some o) ∧ ((p < s.heap.objs.size ∧ p ∈ b :: as ∧ SqT X.K H p (xs0 ++ (xss.take i).flatten)) ∨ s.heap.objs.size + 1 < p) ∧ ∃ (its : List Value), IsTup h p its.toArray ∧ Vals (xs0 ++ (xss.take i).flatten) its)
    ?_ ?_ ?_ ?_
  · intro h' hk
    refine ⟨hk, .inl ⟨Heap.lt_size eb, List.mem_cons_self, ?_⟩, ib, tb.keeps hk, ?_⟩
    · simpa using hb
    · simpa using rb
  · rintro i p h h' ⟨k0, hp, its, ⟨o, e, co⟩, rr⟩ hk
    refine ⟨fun c o e => hk c o (Nat.ne_of_lt (Heap.lt_size e)) (Nat.ne_of_lt (Nat.lt_succ_of_lt (Heap.lt_size e))) (k0 c o e), hp, its, ⟨o, hk p _ ?_ ?_ e, co⟩, rr⟩
    · rcases hp with ⟨hp, _⟩ | hp
      · exact Nat.ne_of_lt hp
      · exact Nat.ne_of_gt (Nat.lt_of_succ_lt hp)
    · rcases hp with ⟨hp, _⟩ | hp
      · exact Nat.ne_of_lt (Nat.lt_succ_of_lt hp)
      · exact Nat.ne_of_gt hp
  · rintro i v p s' Q' E' hv ⟨k0, hpp, its, e, rr⟩ hlt hq
    have hv' : (as.map Value.ref)[i]? = some v := by simpa using hv
    rw [List.getElem?_map] at hv'
    obtain ⟨ai, ea, rfl⟩ := Option.map_eq_some_iff.mp hv'
    obtain ⟨xs, ex, hx⟩ := Paired.getP hp ea
    obtain ⟨i2, r2, e2, _⟩ := I.tuple hx
    have ra := rr.append r2
    have ra' := ra
    rw [List.append_assoc, ← take_flat ex] at ra
    have hz2 : its.length + i2.length ≤ sizeLine := by
      rw [← List.length_append, ← ra.length, List.length_append]
      rw [List.length_append] at hz
      exact Nat.le_trans (Nat.add_le_add_left (take_flat_le xss (i + 1)) _) hz
    by_cases h0 : its = []
    · subst h0
      have z := (Vals.nil_iff rr).mp rfl
      refine cat_tup0 e (e2.keeps k0) ?_
      have alt : ai < s.heap.objs.size := let ⟨_, q, _⟩ := e2; Heap.lt_size q
      refine hq s'.heap ai (fun _ _ e => e) ⟨k0, .inl ⟨alt, List.mem_cons_of_mem _ (List.mem_of_getElem? ea), ?_⟩, i2, e2.keeps k0, ?_⟩
      · rw [take_flat ex, ← List.append_assoc, z]; exact hx
      · simpa using ra
    · refine HT.cat_tup e (e2.keeps k0) h0 (fun hw => ?_) (fun _ => ?_) hz2
      · subst hw
        have z := (Vals.nil_iff r2).mp rfl
        subst z
        rw [List.append_nil] at ra
        refine hq s'.heap p (fun _ _ e => e) ⟨k0, ?_, its, e, ra⟩
        rcases hpp with ⟨w1, w2, w3⟩ | hpp
        · exact .inl ⟨w1, w2, by rw [take_flat ex, List.append_nil]; exact w3⟩
        · exact .inr hpp
      · exact hq _ _ (fun c o e => Heap.get?_push_of_some _ e) ⟨fun c o e => Heap.get?_push_of_some _ (k0 c o e), .inr hlt, its ++ i2, ⟨_, Heap.get?_push_size _ rfl, rfl, _, rfl⟩, ra⟩
  · rintro h' tk q hk ⟨k0, hq, its, e, rr⟩
    rw [show (List.map Value.ref as).toArray.size = xss.length by rw [List.size_toArray, List.length_map, hn], List.take_length] at rr hq
    rcases hq with ⟨h0, h1, h2⟩ | hq
    · exact ⟨.ref q, H, I.kept hk, rfl, q0 q h1 fun zs hz => I.tuple_inj hz h2⟩
    · have hq' : s.heap.objs.size ≤ q := Nat.le_of_lt (Nat.lt_of_succ_lt hq)
      exact ⟨.ref q, _, I.laid (o := .tup (xs0 ++ xss.flatten)) hk hq' ⟨hz, its, rr, e⟩, rfl, q1 q (I.hok.fresh hq')⟩
end
end Ly
namespace Ly
open PySem PySem.Spec L2
open PyProof.Rows hiding St
variable [Tb]
def D.lsts : List D → Option (List (List D))
  | [] => some []
  | .l x :: r => (D.lsts r).map (x :: ·)
  | _ :: _ => none
theorem D.lsts_eq : ∀ {ds : List D} {zs : List (List D)}, D.lsts ds = some zs → ds = zs.map D.l
  | [], _, h => by cases h; rfl
  | d :: r, zs, h => by
    unfold D.lsts at h
    split at h
    · contradiction
    · rename_i x r' e1
      cases e1
      cases e : D.lsts r with
      | none => rw [e] at h; cases h
      | some ws => rw [e] at h; cases h; rw [List.map_cons, ← D.lsts_eq e]
    · cases h
theorem D.lsts_map : ∀ zs : List (List D), D.lsts (zs.map D.l) = some zs
  | [] => rfl
  | y0 :: zs => by show (D.lsts (zs.map D.l)).map (y0 :: ·) = _; rw [D.lsts_map zs]; rfl
def D.tups : List D → Option (List (List D))
  | [] => some []
  | .t x :: r => (D.tups r).map (x :: ·)
  | _ :: _ => none
theorem D.tups_eq : ∀ {ds : List D} {zs : List (List D)}, D.tups ds = some zs → ds = zs.map D.t
  | [], _, h => by cases h; rfl
  | d :: r, zs, h => by
    unfold D.tups at h
    split at h
    · contradiction
    · rename_i x r' e1
      cases e1
      cases e : D.tups r with
      | none => rw [e] at h; cases h
      | some ws => rw [e] at h; cases h; rw [List.map_cons, ← D.tups_eq e]
    · cases h
theorem D.tups_map : ∀ zs : List (List D), D.tups (zs.map D.t) = some zs
  | [] => rfl
  | y0 :: zs => by show (D.tups (zs.map D.t)).map (y0 :: ·) = _; rw [D.tups_map zs]; rfl
theorem Reps.lstsR {K : PySem.W.Frag} {G : Hp} : ∀ {vs : List V} {zs : List (List D)}, Reps K G vs (zs.map D.l) → ∃ (as : List Addr) (xss : List (List V)), vs = as.map V.ref ∧ Paired (fun p xs => G p = some (.lst xs)) as xss ∧ Reps K G xss.flatten zs.flatten
  | _, [], .nil => ⟨[], [], rfl, .nil, .nil⟩
  | _, z :: zs, .cons h r => by
    obtain ⟨as, xss, e1, e2, e3⟩ := Reps.lstsR r
    obtain ⟨a, xs, e, h1, h2⟩ := h.l_inv
    exact ⟨a :: as, xs :: xss, by rw [e, e1]; rfl, .cons h1 e2, h2.append e3⟩
theorem Reps.tupsR {K : PySem.W.Frag} {G : Hp} : ∀ {vs : List V} {zs : List (List D)}, Reps K G vs (zs.map D.t) → ∃ (as : List Addr) (xss : List (List V)), vs = as.map V.ref ∧ Paired (fun p xs => G p = some (.tup xs)) as xss ∧ Reps K G xss.flatten zs.flatten
  | _, [], .nil => ⟨[], [], rfl, .nil, .nil⟩
  | _, z :: zs, .cons h r => by
    obtain ⟨as, xss, e1, e2, e3⟩ := Reps.tupsR r
    obtain ⟨a, xs, e, h1, h2⟩ := h.t_inv
    exact ⟨a :: as, xs :: xss, by rw [e, e1]; rfl, .cons h1 e2, h2.append e3⟩
theorem PairedL.mapP {α β : Type} {F G : α → β → Prop} {l₁ : List α} {l₂ : List β} (h : Paired F l₁ l₂) (f : ∀ a b, F a b → G a b) : Paired G l₁ l₂ := Paired.mapP h f
section
variable {X : Cx} {c : LC} {a b e : Expr} {f g h : FE} {pos : Pos}
def OkC2s (c : LC) (r : List V → Hp → VK → Prop) (k : Rv → Rv → Re Rv) : Prop := ∀ (σ : St) (G1 H1 G H : Hp) (x y : V) (rx ry : Rv) (Q : VK), Gr G1 H1 G H → Same G H → Kept c.B H → RV c G H x rx → RV c G H y ry → Fresh H1 y ry → Post c (k rx ry) σ G H Q → Post c (k rx ry) σ G1 H1 Q → r [x, y] H Q
theorem tE_c2s {k : Rv → Rv → Re Rv} {r : List V → Hp → VK → Prop} (hk : OkC2s c r k) : ∀ σ H Q, tE c (e2 k f g) σ H Q → tCB r (tCons (tE c f) (tCons (tE c g) tNil)) σ H Q := by
  rintro σ H Q ⟨G, Γ, he, q⟩
  refine eE he q fun rx x G1 H1 e1 g1 v1 fr1 he1 q1 => ?_
  refine eE he1 q1 fun ry y G2 H2 e2 g2 v2 fr2 he2 q2 => ?_
  rw [e2] at q1
  exact hk σ G1 H1 G2 H2 x y rx ry Q g2 he2.gh he2.bh (v1.mono g2) v2 fr2 q2 q1
def kSumL : Rv → Rv → Re Rv := fun x y => match x.d.seq?, y with
  | some ds, .fr (.l es) => (match D.lsts ds with
    | some ess => if (es ++ ess.flatten).length ≤ sizeLine then .ok (.fr (.l (es ++ ess.flatten))) else .bad
    | none => .bad)
  | _, _ => .bad
theorem re_sumL (cy : Cy X c) {p : Pos} (hg : Gl X "sum") (hm : X.mg "sum" = none) (ha : PE X a (tE c f)) (hb : PE X b (tE c g)) (hs : starEach [a, b] X.env = (false, eval a X.env) :: starEach [b] X.env := by rfl) (hs2 : starEach [b] X.env = [(false, eval b X.env)] := by rfl)
    (hpl : (backTo pos (starEach [b] X.env)).any (·.1) = false := by rfl) : PE X (.Call (.Name "sum" p) [a, b] [] pos) (tE c (e2 kSumL f g)) := by
  refine PE.weak (pe_callB (by exact cr_sumL cy.calm) hg hm (by decide +kernel) (pa_cons ha (pa_cons hb pa_nil hs2) hs) (by decide) (by decide) hs hpl) (tE_c2s ?_)
  rw [cy.K]
  intro σ G1 H1 G H x y rx ry Q gr gh bh hx hy fr q q1
  unfold kSumL at q q1
  split at q
  · rename_i ds es e
    split at q
    · rename_i ess e2
      split at q
      · rename_i hz
        obtain ⟨p, xs, rfl, h1, h2⟩ := hx.sql gh e
        have e3 := D.lsts_eq e2
        subst e3
        obtain ⟨as, xss, rfl, h3, h4⟩ := h2.lstsR
        obtain ⟨b', rfl, n1, n2, o⟩ := id hy
        cases o with
        | l h5 h6 =>
          rename_i ys
          have r6 := h6.append h4
          refine ⟨p, b', as, ys, xss, rfl, h1, h5, Paired.mapP h3 fun a b z => gh _ _ z, by rw [r6.length]; exact hz, fun z => ?_, post_lst bh gh q r6⟩
          subst z
          cases h3
          cases ess with
          | nil =>
            rw [e] at q1
            simp only [List.map_nil, D.lsts, List.flatten_nil, List.append_nil] at q1 hz
            rw [if_pos hz] at q1
            exact q1 _ _ _ gr hy fr
          | cons z zs => cases h2
      · exact q.elim
    · exact q.elim
  · exact q.elim
def kSumT : Rv → Rv → Re Rv := fun x y => match x.d.seq?, y.d with
  | some ds, .t es => (match D.tups ds with
    | some ess => if (es ++ ess.flatten).length ≤ sizeLine then .ok (.sh (.t (es ++ ess.flatten))) else .bad
    | none => .bad)
  | _, _ => .bad
theorem re_sumT (cy : Cy X c) {p : Pos} (hg : Gl X "sum") (hm : X.mg "sum" = none) (ha : PE X a (tE c f)) (hb : PE X b (tE c g)) (hs : starEach [a, b] X.env = (false, eval a X.env) :: starEach [b] X.env := by rfl) (hs2 : starEach [b] X.env = [(false, eval b X.env)] := by rfl)
    (hpl : (backTo pos (starEach [b] X.env)).any (·.1) = false := by rfl) : PE X (.Call (.Name "sum" p) [a, b] [] pos) (tE c (e2 kSumT f g)) := by
  refine re_b2 (r := rSumT c.K) (by rw [← cy.K]; exact cr_sumT cy.calm) ?_ hg hm (by decide +kernel) ha hb (by decide) (by decide) hs hs2 hpl
  intro σ G H x y rx ry Q gh bh hx hy q
  unfold kSumT at q
  split at q
  · rename_i ds es e e'
    split at q
    · rename_i ess e2
      split at q
      · rename_i hz
        obtain ⟨p, xs, rfl, h1, h2⟩ := hx.sql gh e
        have e3 := D.tups_eq e2
        subst e3
        obtain ⟨as, xss, rfl, h3, h4⟩ := h2.tupsR
        obtain ⟨b', ys, rfl, h5, h6⟩ := hy.tup e'
        have r6 := h6.append h4
        refine ⟨p, b', as, ys, xss, rfl, h1, SqT.of (gh _ _ h5), Paired.mapP h3 fun a b z => SqT.of (gh _ _ z), by rw [r6.length]; exact hz, fun z hm ht => ?_, post_tup gh q r6⟩
        refine post_sh gh q (.t (xs := ys ++ xss.flatten) ?_ r6)
        have key : ∃ zs, G z = some (.tup zs) := by
          rcases List.mem_cons.mp hm with rfl | hm
          · exact ⟨_, h5⟩
          · obtain ⟨i, hi, ei⟩ := List.getElem_of_mem hm
            obtain ⟨zs, _, w⟩ := Paired.getP h3 (by rw [List.getElem?_eq_getElem hi, ei])
            exact ⟨zs, w⟩
        obtain ⟨zs, w⟩ := key
        have e9 : zs = ys ++ xss.flatten := ht zs (SqT.of (gh _ _ w))
        rw [← e9]; exact w
      · exact q.elim
    · exact q.elim
  · exact q.elim
end
end Ly
namespace Ly
open PySem PySem.Spec L2
open PyProof.Rows hiding St
section
variable {m : Nat} {L : Lk} {k k1 k2 k3 k4 k5 : Kd} {α β γ δ ε τ ω S : Type} {e : τ → D} {ea : α → D} {eb : β → D} {f g h : FE}
theorem er_same2 [DecidableEq α] {x y : Re α} {F : List D → Re Rv} (hk1 : k1.ok = true) (hx : ER m L k1 ea x f) (hk2 : k2.ok = true) (hy : ER m L k2 ea y g) (hF : ∀ a b : α, RE1 .sh eB (sameT ea a b) (F [ea a, ea b])) :
    ER m L .sh eB (x.bind fun a => y.bind fun b => sameT ea a b) (eCall 2 F (aCons f (aCons g aNil))) := er_call (cr_c hk1 hx fun a => cr_c hk2 hy fun b => cr_n (call_out rfl rfl (hF a b)))
@[irreducible] def flatT (A : List (List α)) (b : List α) : Re (List α) := if (b ++ A.flatten).length ≤ 16777216 then .ok (b ++ A.flatten) else .bad
theorem flatT_ok {A : List (List α)} {b : List α} (h : (b ++ A.flatten).length ≤ 16777216) : flatT A b = .ok (b ++ A.flatten) := by unfold flatT; exact if_pos h
theorem o_sumL {A : List (List α)} {b : List α} : RE1 .fr (eL ea) (flatT A b) (kSumL (k1.v (eL (eL ea) A)) (Kd.fr.v (eL ea b))) := by
  have h1 : A.map (eL ea) = (A.map fun xs => xs.map ea).map D.l := by rw [List.map_map]; rfl
  have h2 : (A.map fun xs => xs.map ea).flatten = A.flatten.map ea := by rw [List.map_flatten]
  have h3 : kSumL (k1.v (eL (eL ea) A)) (Kd.fr.v (eL ea b)) = if (b.map ea ++ (A.map fun xs => xs.map ea).flatten).length ≤ sizeLine then .ok (.fr (.l (b.map ea ++ (A.map fun xs => xs.map ea).flatten))) else .bad := by
    show kSumL (k1.v (.l (A.map (eL ea)))) (.fr (.l (b.map ea))) = _
    unfold kSumL
    rw [seq_v, h1]
    dsimp only
    rw [D.lsts_map]
  rw [h3, h2, ← List.map_append, List.length_map, sizeLine_eq]
  unfold flatT
  split
  · rfl
  · trivial
def pairF (A : List (Int × Int)) : List Int := (A.map fun p => [p.1, p.2]).flatten
@[irreducible] def pairT (A : List (Int × Int)) (b : List Int) : Re (List Int) := if (b ++ pairF A).length ≤ 16777216 then .ok (b ++ pairF A) else .bad
theorem pairT_ok {A : List (Int × Int)} {b : List Int} (h : (b ++ pairF A).length ≤ 16777216) : pairT A b = .ok (b ++ pairF A) := by unfold pairT; exact if_pos h
theorem o_sumP {A : List (Int × Int)} {b : List Int} : RE1 .sh (eTu eI) (pairT A b) (kSumT (k1.v (eL (eP2 eI eI) A)) (k2.v (eTu eI b))) := by
  have h1 : A.map (eP2 eI eI) = (A.map fun p => [eI p.1, eI p.2]).map D.t := by rw [List.map_map]; rfl
  have h2 : (A.map fun p => [eI p.1, eI p.2]).flatten = (pairF A).map eI := by
    unfold pairF
    rw [List.map_flatten, List.map_map]; rfl
  have h3 : kSumT (k1.v (eL (eP2 eI eI) A)) (k2.v (eTu eI b)) = if (b.map eI ++ (A.map fun p => [eI p.1, eI p.2]).flatten).length ≤ sizeLine then .ok (.sh (.t (b.map eI ++ (A.map fun p => [eI p.1, eI p.2]).flatten))) else .bad := by
    show kSumT (k1.v (.l (A.map (eP2 eI eI)))) (k2.v (.t (b.map eI))) = _
    unfold kSumT
    rw [seq_v, Kd.v_d, h1]
    dsimp only
    rw [D.tups_map]
  rw [h3, h2, ← List.map_append, List.length_map, sizeLine_eq]
  unfold pairT
  split
  · rfl
  · trivial
end
end Ly
end

section
set_option maxRecDepth 100000
namespace Ly
open PySem PySem.Spec L2
open PyProof.Rows hiding St
variable [Tb]
section
variable {X : Cx} {c : LC} {a b e tg : Expr} {f g h : FE} {u : FS} {pos : Pos} {body : List Stmt}
def iKeysF (td : TE) : TI := fun σ H R => td σ H fun x H1 => ∃ (d : Addr) (kvs : List (Key × V)), x = .ref d ∧ H1 d = some (.dK kvs) ∧ ∀ o, R (Itk d o kvs) (upd H1 d (.frz o (.dK kvs)))
theorem pi_keysF {td : TE} (he : PE X e td) : PI X tg e (iKeysF td) := by
  refine ⟨fun pins s σ H R I h => ?_⟩
  refine thn (he.run pins s σ H _ I h) fun w s1 ⟨x, H1, I1, rx, d, kvs, ex, hd0, q⟩ => ?_
  subst ex
  obtain rfl : w = Value.ref d := rx
  obtain ⟨od, I2⟩ := I1.lock hd0 True.intro
  have hd : upd H1 d (.frz od (.dK kvs)) d = some (.frz od (.dK kvs)) := upd_same
  obtain ⟨hs, hgd, hx, es, ep, vs, hdt, hsz, kv, hm⟩ := I2.frzK hd
  refine iter_keys hs hgd hx hdt (pi_one (tk := s1.toks) I2 _ (turn_keys _ hdt) ⟨_, Heap.get?_push_size _ rfl, rfl, ?_⟩ (q od))
  rw [hsz] <;> rfl
theorem walk_keys {K : PySem.W.Frag} {G : Hp} {d : Addr} {o : Obj} {kvs : List (Key × V)} (h : G d = some (.frz o (.dK kvs))) : WalkOk K G (Itk d o kvs) ((kvs.map (·.1)).map keyD) := by
  refine ⟨fun G1 H1 s1 s2 i y hi => ?_, fun H1 s1 i hi => ⟨s1 _ _ h, by simpa using hi⟩⟩
  rw [List.getElem?_map, List.getElem?_map] at hi
  obtain ⟨k, hk, rfl⟩ := Option.map_eq_some_iff.mp hi
  obtain ⟨⟨k', v⟩, hkv, rfl⟩ := Option.map_eq_some_iff.mp hk
  refine ⟨⟨s2 _ _ (s1 _ _ h), (List.getElem?_eq_some_iff.mp hkv).1⟩, ?_⟩
  rintro x H2 ⟨rfl, k2, v2, e2, rfl⟩
  rw [hkv] at e2
  cases e2
  refine ⟨G1, .refl s2, ?_⟩
  cases k' with
  | inl z => exact .i z
  | inr z => exact .s z
def itDk (f : FE) : FI := fun Γ => (f Γ).bind fun r => match r with
  | .fr (.dk ks _) => .ok (ks.map keyD) | _ => .bad
theorem ri_dk (ha : PE X e (tE c f)) : PI X tg e (tI c (itDk f)) := by
  refine PI.weak (pi_keysF ha) ?_
  rintro σ H R ⟨G, Γ, he, q⟩
  refine iE0 he q fun r v G1 H1 eq1 g1 v1 fr q1 => ?_
  split at q1
  · rename_i ks ds
    obtain ⟨p, rfl, bp, gp, o⟩ := v1
    obtain ⟨p', e', hp⟩ := fr
    cases e'
    cases o with
    | dk h1 h2 h3 =>
      subst h2
      refine ⟨p, _, rfl, h1, fun od => q1 _ (upd G1 p (.frz od (.dK _))) _ ⟨Kept.upd g1.hh hp, fun b x z => ?_, fun b x z => ?_, fun b x z n => ?_, fun n => (g1.gt n).upd (fun _ z => by cases z), fun t => tabs_put (g1.tb t) h1 ⟨fun _ z => (by cases z), fun _ z => (by cases z)⟩⟩ (walk_keys upd_same)⟩
      · rw [upd_ne (ne_of_none (g1.gg b x z) gp)]; exact g1.gg b x z
      · by_cases hb : b = p
        · subst hb; rw [upd_same] at z ⊢; exact z
        · rw [upd_ne hb] at z ⊢; exact g1.gh b x z
      · by_cases hb : b = p
        · subst hb; exact absurd hp n
        · rw [upd_ne hb] at z; exact g1.nw b x z n
  · exact q1.elim
def tLock0 (t : TS) : TS := fun D σ H => ∃ d u, H d = some u ∧ Mut (some u) ∧ ∀ od, t D σ (upd H d (.frz od u))
theorem ps_lock0 {st : Stmt} {t : TS} (h : PS X st t) : PS X st (tLock0 t) := by
  refine ⟨fun pins s σ H D I hw => ?_⟩
  obtain ⟨d, u, hd, mu, hw⟩ := hw
  obtain ⟨od, I1⟩ := I.lock hd mu
  exact h.run pins s σ _ _ I1 (hw od)
theorem EnvOk.lockK {G H : Hp} {σ : St} {Γ : Env'} (he : EnvOk c G H σ Γ) {i : Nat} {ks : List Key} {ds : List D} (hi : Γ[i]? = some (some (.fr (.dk ks ds)))) :
    ∃ (p : Addr) (kvs : List (Key × V)), σ[i]? = some (some (.ref p)) ∧ H p = some (.dK kvs) ∧ ks = kvs.map (·.1) ∧ G p = none ∧ ∀ od, EnvOk c (upd G p (.frz od (.dK kvs))) (upd H p (.frz od (.dK kvs))) σ (Γ.set i (some (.sh (.dk ks ds)))) := by
  obtain ⟨v, h1, ⟨p, rfl, bp, gp, o⟩, _⟩ := he.at' i _ hi
  cases o with
  | @dk kvs _ _ hp hk rs =>
    refine ⟨p, kvs, h1, hp, hk, gp, fun od => ?_⟩
    have sm : Same G (upd G p (.frz od (.dK kvs))) := fun b x q => by rw [upd_ne (ne_of_none q gp)]; exact q
    refine ⟨Kept.upd he.bh bp, he.g0.trans sm, fun b x q => ?_, fun b x q n => ?_, he.gt.upd (fun _ z => by cases z), tabs_put he.tb hp ⟨fun _ z => (by cases z), fun _ z => (by cases z)⟩, by simpa using he.len, fun j r hj => ?_, fun j k x y q hj hk sj sk => ?_⟩
    · by_cases hb : b = p
      · subst hb; rw [upd_same] at q ⊢; exact q
      · rw [upd_ne hb] at q ⊢; exact he.gh b x q
    · by_cases hb : b = p
      · subst hb; exact absurd bp n
      · rw [upd_ne hb] at q; exact he.gf b x q n
    · rcases set_get hj with ⟨rfl, rfl, hl⟩ | ⟨hne, hj⟩
      · exact ⟨.ref p, h1, Rep.dk (.inr ⟨od, upd_same⟩) hk (rs.mono sm), fun _ z => by cases z⟩
      · obtain ⟨v', h1', h2', h3'⟩ := he.at' j r hj
        refine ⟨v', h1', ?_, h3'⟩
        cases r with
        | sh d' => exact Rep.mono sm h2'
        | fr d' =>
          obtain ⟨p', rfl, bp', gp', o'⟩ := h2'
          have np : p' ≠ p := fun z => by subst z; exact hne (he.sep j i _ _ p' hj hi h1' h1)
          refine ⟨p', rfl, bp', by rw [upd_ne np]; exact gp', ?_⟩
          cases o' with
          | l w1 w2 => exact .l (by rw [upd_ne np]; exact w1) (w2.mono sm)
          | dk w1 w2 w3 => exact .dk (by rw [upd_ne np]; exact w1) w2 (w3.mono sm)
          | dt w1 w2 w3 => exact .dt (by rw [upd_ne np]; exact w1) w2 (w3.mono sm)
        | bo d' => exact absurd rfl (h3' d')
    · rcases set_get hj with ⟨_, z, _⟩ | ⟨nj, hj⟩
      · cases z
      · rcases set_get hk with ⟨_, z, _⟩ | ⟨nk, hk⟩
        · cases z
        · exact he.sep j k x y q hj hk sj sk
theorem for_loop {J : It} {ds : List D} {t : Tg} {G1 H1 : Hp} {σ : St} {Γ : Env'} {D : Ends} (he : EnvOk c G1 H1 σ Γ) (w : WalkOk c.K G1 J ds) (q : PostS c (forL t u ds Γ) G1 D) :
    ∃ W : Nat → Nat → St → Hp → Prop, (∃ m, W 0 m σ H1) ∧ ∀ i m σ H, W i m σ H → (J.stop i H ∧ D.nx σ H) ∨ (J.go i H ∧ ∃ N : St → Hp → Prop, (∀ σ' H', N σ' H' → ∃ m', m' < m ∧ W (i + 1) m' σ' H') ∧
      ∀ x H', J.yld i H x H' → t.tgt c.K x σ H' fun σ2 H2 => tS c u { D with nx := N, ct := N, bk := D.nx } σ2 H2) := by
  refine ⟨fun i m σ' H' => m = ds.length - i ∧ i ≤ ds.length ∧ ∃ Gi Γi, EnvOk c Gi H' σ' Γi ∧ Same G1 Gi ∧ PostS c (forL t u (ds.drop i) Γi) Gi D,
    ⟨ds.length, by simp, Nat.zero_le _, G1, Γ, he, Same.refl _, q⟩, ?_⟩
  rintro i m σ' H' ⟨rfl, hi, Gi, Γi, hei, si, qi⟩
  by_cases hl : i < ds.length
  · obtain ⟨d, hd⟩ : ∃ d, ds[i]? = some d := ⟨ds[i], by simp [hl]⟩
    have hdrop : ds.drop i = d :: ds.drop (i + 1) := by
      rw [List.drop_eq_getElem_cons hl]
      congr 1
      simpa [hl] using hd
    rw [hdrop] at qi
    obtain ⟨go, yl⟩ := w.go Gi H' si hei.gh i d hd
    refine .inr ⟨go, fun σ'' H'' => ∃ Gj Γj, EnvOk c Gj H'' σ'' Γj ∧ Same G1 Gj ∧ PostS c (forL t u (ds.drop (i + 1)) Γj) Gj D,
      fun σ'' H'' ⟨Gj, Γj, hej, sj, qj⟩ => ⟨ds.length - (i + 1), by omega, rfl, hl, Gj, Γj, hej, sj, qj⟩, fun x H2 hy => ?_⟩
    obtain ⟨G2, g2, r2⟩ := yl x H2 hy
    have he2 := hei.mono g2
    unfold forL at qi
    cases et : t.set d Γi with
    | none => rw [et] at qi; exact qi.elim
    | some Γ1 =>
      rw [et] at qi
      refine Tg.ok he2 r2 et fun σ2 he3 _ => ⟨G2, Γ1, he3, ?_⟩
      have s2 : Same G1 G2 := si.trans g2.gg
      have qi : PostS c (match u Γ1 with | .nx Γ' => forL t u (ds.drop (i + 1)) Γ' | .ct Γ' => forL t u (ds.drop (i + 1)) Γ' | .bk Γ' => .nx Γ' | .rt r => .rt r | .ex e Γ' => .ex e Γ' | .bad => .bad) G2 D := PostS.later g2.gg qi
      cases eu : u Γ1 with
      | nx Γ' => rw [eu] at qi; exact fun σ3 G3 H3 he4 s3 => ⟨G3, Γ', he4, s2.trans s3, PostS.later s3 qi⟩
      | ct Γ' => rw [eu] at qi; exact fun σ3 G3 H3 he4 s3 => ⟨G3, Γ', he4, s2.trans s3, PostS.later s3 qi⟩
      | bk Γ' => rw [eu] at qi; exact qi
      | rt r => rw [eu] at qi; exact qi
      | ex x Γ' => rw [eu] at qi; exact qi
      | bad => rw [eu] at qi; exact qi
  · have ei : i = ds.length := by omega
    subst ei
    refine .inl ⟨w.stop H' (si.trans hei.gh) _ (Nat.le_refl _), ?_⟩
    rw [List.drop_length] at qi
    exact qi σ' Gi H' hei (Same.refl _)
def sForK (i : Nat) (t : Tg) (u : FS) : FS := fun Γ => match Γ[i]? with
  | some (some (.fr (.dk ks ds))) => forL t u (ks.map keyD) (Γ.set i (some (.sh (.dk ks ds))))
  | _ => .bad
theorem rs_forK (hp : PassesOwn (model X.prog X.w) X.A X.env X.xe) (cy : Cy X c) {i : Nat} {x : Str} {p' : Pos} {t : Tg} (hN : X.N[i]? = some x) (hv : Vis X.env.scope x) (hg : PG X tg (t.tgt c.K)) (hb : PSs X body (tS c u))
    (hd : (x == ("__debug__" : Str)) = false := by decide) (hcd : (x == ("__classdict__" : Str)) = false := by decide)
    (hs : ∀ y, foldedSetIterable (.Name x p') X.env y = pure y := by intro _; rfl) : PS X (.For tg (.Name x p') body [] pos) (tS c (sForK i t u)) := by
  have h1 : PS X (.For tg (.Name x p') body [] pos) (tFor (iKeys (tVar i)) (t.tgt c.K) (tS c u)) := ps_for hp cy.calm (pi_keys (pe_var hN hv hd hcd)) hg hb hs
  refine PS.weak (ps_lock0 h1) ?_
  rintro D σ H ⟨G, Γ, he, q⟩
  unfold sForK at q
  split at q
  · rename_i ks ds hi
    obtain ⟨p, kvs, e1, e2, e3, e4, e5⟩ := he.lockK hi
    subst e3
    refine ⟨p, _, e2, True.intro, fun od => ⟨.ref p, e1, p, od, rfl, .inl ⟨kvs, upd_same, ?_⟩⟩⟩
    exact for_loop (e5 od) (walk_keys upd_same) (PostS.later (fun b x z => by rw [upd_ne (ne_of_none z e4)]; exact z) q)
  · exact q.elim
end
end Ly
namespace Ly
open PySem PySem.Spec L2
open PyProof.Rows hiding St
section
variable {m : Nat} {L : Lk} {k k1 k2 k3 k4 k5 : Kd} {α β γ δ ε τ ω S : Type} {e : τ → D} {ea : α → D} {eb : β → D} {f g h : FE} {u w : FS} {P : ω → Fl → Prop} {i : Nat} {t : Tg}
def fiC (ds : List D) : FI := fun _ => .ok ds
theorem ir_c {as : List Int} : IR m L eI (.ok as) (fiC (as.map eI)) := fun _ _ => rfl
theorem keys_map (A : List (Int × α)) : (A.map fun p => (.inl p.1 : Key)).map keyD = (A.map fun p => p.1).map eI := by rw [List.map_map, List.map_map]; rfl
theorem ir_dk {x : Re (List (Int × α))} (hx : ER m L .fr (eDk ea) x f) : IR m L eI (x.bind fun A => .ok (A.map fun p => p.1)) (itDk f) := fun Γ hΓ => by
  have h1 := hx Γ hΓ
  unfold itDk
  cases x with
  | ok A =>
    have h1 : f Γ = .ok _ := h1
    rw [h1]
    show Re.ok ((A.map fun p => (.inl p.1 : Key)).map keyD) = _
    rw [keys_map]
  | ex z => have h1 : f Γ = .ex z := h1; rw [h1]; rfl
  | bad => trivial
theorem bg_forKS {A : List (Int × α)} {T : Re ω} (hl : lk i L = some (.fr (eDk ea A))) (h : BG m (frzL i L) P T (sSeq (sFor (fiC ((A.map fun p => p.1).map eI)) t u) w)) : BG m L P T (sSeq (sForK i t u) w) := fun Γ hΓ => by
  have h1 := h _ (hΓ.frz i)
  have h2 := hΓ.at' i _ hl
  have e1 : sForK i t u Γ = sFor (fiC ((A.map fun p => p.1).map eI)) t u (frz i Γ) := by
    unfold sForK frz
    rw [h2]
    show forL t u ((A.map fun p => (.inl p.1 : Key)).map keyD) _ = _
    rw [keys_map]
    rfl
  have e2 : sSeq (sForK i t u) w Γ = sSeq (sFor (fiC ((A.map fun p => p.1).map eI)) t u) w (frz i Γ) := by
    show (match sForK i t u Γ with | .nx Γ' => w Γ' | o => o) = (match sFor (fiC ((A.map fun p => p.1).map eI)) t u (frz i Γ) with | .nx Γ' => w Γ' | o => o)
    rw [e1]
  rw [e2]; exact h1
def sBad : FS := fun _ => .bad
end
section
variable {X : Cx} {c : LC}
theorem rs_bad {st : Stmt} : PS X st (tS c sBad) := ⟨fun pins s σ H D I ⟨G, Γ, he, q⟩ => q.elim⟩
end
section
variable {m : Nat} {L : Lk} {ω : Type} {P : ω → Fl → Prop}
theorem bg_sbad {u : FS} : BG m L P (.bad : Re ω) u := fun _ _ => trivial
end
end Ly
namespace Ly
open PySem PySem.Spec L2
open PyProof.Rows hiding St
section
variable {m : Nat} {L : Lk} {k k1 k2 k3 k4 k5 : Kd} {α β γ δ ε τ ω S : Type} {e : τ → D} {ea : α → D} {eb : β → D} {f g h : FE}
structure EqJ (e : α → D) : Prop where
  eq : ∀ a b, deq (e a) (e b) = true ↔ a = b
theorem eqjI : EqJ eI := ⟨(eqI 1).eq⟩
theorem eqjB : EqJ eB := ⟨(eqB 1).eq⟩
theorem eqjS : EqJ eS := ⟨fun a b => by show deq (.s a) (.s b) = true ↔ _; rw [deq_s]; simp⟩
theorem eqj_pys (h : EqJ ea) : ∀ (xs ys : List α), PyData.eqvAll (D.pys (xs.map ea)) (D.pys (ys.map ea)) = true ↔ xs = ys
  | [], [] => by simp [D.pys, PyData.eqvAll]
  | [], _ :: _ => by simp [D.pys, PyData.eqvAll]
  | _ :: _, [] => by simp [D.pys, PyData.eqvAll]
  | x :: xs, y :: ys => by
    rw [List.map_cons, List.map_cons, D.pys, D.pys, PyData.eqvAll, Bool.and_eq_true, eqj_pys h xs ys]
    have := h.eq x y
    unfold deq at this
    rw [this]
    simp
theorem eqjL (h : EqJ ea) : EqJ (eL ea) := ⟨fun a b => by
    show PyData.eqv (D.py (.l (a.map ea))) (D.py (.l (b.map ea))) = true ↔ _
    rw [D.py, D.py, PyData.eqv]
    exact eqj_pys h a b⟩
theorem eqjT (h : EqJ ea) : EqJ (eTu ea) := ⟨fun a b => by
    show PyData.eqv (D.py (.t (a.map ea))) (D.py (.t (b.map ea))) = true ↔ _
    rw [D.py, D.py, PyData.eqv]
    exact eqj_pys h a b⟩
theorem eqjP2 (h1 : EqJ ea) (h2 : EqJ eb) : EqJ (eP2 ea eb) := ⟨fun a b => by
    have e1 := h1.eq a.1 b.1
    have e2 := h2.eq a.2 b.2
    unfold deq at e1 e2
    show PyData.eqv (D.py (.t [ea a.1, eb a.2])) (D.py (.t [ea b.1, eb b.2])) = true ↔ _
    rw [D.py, D.py, PyData.eqv, D.pys, D.pys, D.pys, D.pys, D.pys, D.pys, PyData.eqvAll, PyData.eqvAll, PyData.eqvAll, Bool.and_eq_true, Bool.and_eq_true, e1, e2]
    constructor
    · rintro ⟨h1, h2, _⟩; exact Prod.ext h1 h2
    · rintro rfl; exact ⟨rfl, rfl, rfl⟩⟩
theorem eqjC : EqJ eCl := ⟨fun a b => by
    have e1 := eqjS.eq a.1 b.1
    have e2 := eqj_pys eqjI a.2 b.2
    unfold deq at e1
    show PyData.eqv (D.py (.t (.s a.1 :: a.2.map .i))) (D.py (.t (.s b.1 :: b.2.map .i))) = true ↔ _
    rw [D.py, D.py, PyData.eqv, D.pys, D.pys, PyData.eqvAll, Bool.and_eq_true, e1, e2]
    constructor
    · rintro ⟨h1, h2⟩; exact Prod.ext h1 h2
    · rintro rfl; exact ⟨rfl, rfl⟩⟩
@[irreducible] def equT [DecidableEq α] (ea : α → D) (a b : α) : Re Bool := if dok 12 (ea a) = true ∧ dok 12 (ea b) = true then .ok (decide (a = b)) else .bad
@[irreducible] def nequT [DecidableEq α] (ea : α → D) (a b : α) : Re Bool := if dok 12 (ea a) = true ∧ dok 12 (ea b) = true then .ok (!decide (a = b)) else .bad
theorem equT_ok [DecidableEq α] {a b : α} (h1 : dok 12 (ea a) = true) (h2 : dok 12 (ea b) = true) : equT ea a b = .ok (decide (a = b)) := by unfold equT; exact if_pos ⟨h1, h2⟩
theorem nequT_ok [DecidableEq α] {a b : α} (h1 : dok 12 (ea a) = true) (h2 : dok 12 (ea b) = true) : nequT ea a b = .ok (!decide (a = b)) := by unfold nequT; exact if_pos ⟨h1, h2⟩
theorem o_eqj [DecidableEq α] (h : EqJ ea) {a b : α} : RE1 .sh eB (equT ea a b) (kEq (k1.v (ea a)) (k2.v (ea b))) := by
  unfold equT
  split
  · rename_i hd
    show kEq _ _ = .ok (.sh (.b (decide (a = b))))
    unfold kEq
    rw [Kd.v_d, Kd.v_d, if_pos hd]
    show okb (deq (ea a) (ea b)) = _
    have := h.eq a b
    by_cases hab : a = b
    · rw [this.mpr hab, decide_eq_true hab]; rfl
    · have : deq (ea a) (ea b) = false := by rw [← Bool.not_eq_true]; exact fun e => hab (this.mp e)
      rw [this, decide_eq_false hab]; rfl
  · trivial
theorem o_nej [DecidableEq α] (h : EqJ ea) {a b : α} : RE1 .sh eB (nequT ea a b) (kNe (k1.v (ea a)) (k2.v (ea b))) := by
  unfold nequT
  split
  · rename_i hd
    show kNe _ _ = .ok (.sh (.b (!decide (a = b))))
    unfold kNe
    rw [Kd.v_d, Kd.v_d, if_pos hd]
    show okb (!deq (ea a) (ea b)) = _
    have := h.eq a b
    by_cases hab : a = b
    · rw [this.mpr hab, decide_eq_true hab]; rfl
    · have : deq (ea a) (ea b) = false := by rw [← Bool.not_eq_true]; exact fun e => hab (this.mp e)
      rw [this, decide_eq_false hab]; rfl
  · trivial
end
end Ly
end

section
set_option maxRecDepth 100000
namespace SumG
open PySem PySem.Spec PyProof.Rows
section
variable {prog : Program} {w : World} {A : Around} {E : Value → Shared → Prop} {s : Shared}
theorem call_treeK {id : String} {b : Builtin} {args : List Value} {kw : List (Str × Value)} {Q : Value → Shared → Prop} (hk : builtinKind id = none) (hp : plainId id = true) (hb : entryFor table id = some b) (ha : argsOk id ⟨args, kw⟩)
    (hc : wpAny (model prog w) A.in1 (b ⟨args, kw⟩) (fun fin s' => match fin with
      | .done f => (match (Except.ok f : Result) with | .ok (.ret v) => Q v s' | .ok _ => False | .error e => E e s')
      | .again c' => c'.quiet = true ∧ codeAny (model prog w) A c' (fun r s' => match r with | .ok (.ret v) => Q v s' | .ok _ => False | .error e => E e s') s') E s) :
    wpAny (model prog w) A (call (.builtin id) args kw) Q E s := by
  refine wpAny_call (codeAny_call_builtin hp hb ?_)
  simp only [checkBuiltinCall, hk]
  cases hsig : Manifest.signature? id with
  | none => exact wpAny_pure hc
  | some sig =>
    have ha' : Bind.checkArgs id sig ⟨args, kw⟩ = pure () := by simpa only [argsOk, hsig] using ha
    simp only [ha']
    exact wpAny_pure hc
theorem args_sumK (a b : Value) : argsOk "sum" ⟨[a], [(Str.ofString "start", b)]⟩ := by unfold argsOk; kernel_rfl
theorem call_sum0 {l : Addr} {xs : Array (Int × Tok)} {tk0 : Tok} {Q : Value → Shared → Prop} (hh : A.handled = none) (hl : s.heap.IsList l (intItems xs))
    (h : ∀ h' tk t', (∀ b o, s.heap.get? b = some o → h'.get? b = some o) → Q (.int (preSum (numAt xs) xs.size) t') { s with heap := h', toks := tk }) :
    wpAny (model prog w) A (call (.builtin "sum") [.ref l] [(Str.ofString "start", .int 0 tk0)]) Q E s := by
  refine call_treeK F.kind_sum F.plain_sum F.entry_sum (args_sumK _ _) ?_
  unfold Builtin.«sum»
  simp only [List.length_cons, List.length_nil]
  rw [if_neg (by decide)]
  refine wpAny_bind (wpAny_of_eq (show Builtin.Builtins.bindParams "sum" ["start"] 0 ⟨[], [(Str.ofString "start", .int 0 tk0)]⟩ = pure [some (.int 0 tk0)] from rfl) ?_)
  refine wpAny_bind (iter_intList hl fun s₂ e st hfp hlI => ?_)
  have W := Walks.list (prog := prog) (w := w) (A := A.in1) hh s.heap.objs.size l hlI (intItems xs)
  have hsz : (intItems xs).size = xs.size := by simp [intItems]
  rw [hsz] at W
  refine wpAny_bind ?_
  refine wpAny_rule ?_
  refine wpAny_bind (wpAny_mkInt ?_)
  refine wpAny_bind (wpAny_pure ?_)
  simp only [List.forIn_cons, List.forIn_nil]
  refine wpAny_bind (wpAny_bind (wpAny_bind (wpAny_isInstance (T := "int") (b := false) (typeIs_int _ _ _) PySem.sub_int_str ?_)))
  simp only [Bool.false_eq_true, if_false]
  refine wpAny_pure (wpAny_bind (wpAny_bind (wpAny_isInstance (T := "int") (b := false) (typeIs_int _ _ _) PySem.sub_int_bytes ?_)))
  simp only [Bool.false_eq_true, if_false]
  refine wpAny_pure (wpAny_bind (wpAny_bind (wpAny_isInstance (T := "int") (b := false) (typeIs_int _ _ _) PySem.sub_int_bytearray ?_)))
  simp only [Bool.false_eq_true, if_false]
  refine wpAny_pure (wpAny_pure ?_)
  refine wpAny_bind (wpAny_newObj_type ?_)
  have hSf : s₂.heap.objs.size ∉ [s.heap.objs.size, l] := fun hm => Nat.lt_irrefl _ (hfp _ hm)
  refine wpAny_pure ⟨plainId_quiet F.plain_sum_loop _, codeAny_sum_loopG W (numAt xs) (fun _ _ => intItems_at) s₂.heap.objs.size hSf xs.size 0 _ s₂.toks 0 0 (Or.inl rfl) rfl (Nat.zero_le _)
    (W.frame _ _ _ st fun b _ o e => Heap.get?_push_of_some _ e) (Heap.get?_push_size _ rfl) fun h' tk t' hk => ?_⟩
  subst e
  exact h h' tk t' (old_kept fun b o hb e => hk b o hb (Nat.ne_of_lt (Heap.lt_size e)) (Heap.get?_push_of_some _ e))
end
end SumG
namespace Ly
open PySem PySem.Spec L2
open PyProof.Rows hiding St
variable [Tb]
def rSum0 (K : PySem.W.Frag) : List V → List V → Hp → VK → Prop := fun vs zs H Q => ∃ (a : Addr) (ns : List Int), vs = [V.ref a] ∧ zs = [V.int 0] ∧ SqL K H a (ns.map V.int) ∧ Q (.int ns.sum) H
section
variable {X : Cx} {c : LC} {a b e tg : Expr} {f g h : FE} {pos : Pos}
theorem cr_sum0 (hc : X.calm = true) : CallRK X (.builtin "sum") [Str.ofString "start"] (rSum0 X.K) := by
  intro pins s σ H vs zs us ws Q I r rz h
  obtain ⟨a, ns, rfl, rfl, hs, q⟩ := h
  obtain ⟨its, rv, hl, _⟩ := I.list hs
  obtain rfl := Vals.ref1 r
  obtain ⟨w1, rfl, t, rfl⟩ := vals1 rz
  have hi : IntsAre its ns := rv.ints
  obtain ⟨xs, e⟩ := hi.allInts.items
  have hn : numsOf (intItems xs).toList = ns := by rw [← e]; exact hi.numsOf
  rw [nums_intItems] at hn
  have hl' := hl.isList
  rw [e] at hl'
  refine SumG.call_sum0 (I.ok.hd hc) hl' fun h' tk t' hk => ⟨.int _, H, I.kept hk, ⟨t', ?_⟩, q⟩
  rw [preSum_eq, List.take_of_length_le (by simp), hn]
theorem re_sum0 (cy : Cy X c) {p p2 kp : Pos} {j : Nat} (hg : Gl X "sum") (hm : X.mg "sum" = none) (ha : PE X a (tE c f)) (he : backTo pos (starEach [a] X.env) = (false, eval a X.env) :: backTo pos (starEach [] X.env) := by rfl) (hpl : (backTo pos (starEach [a] X.env)).any (·.1) = false := by rfl)
    (hall : (backToKw pos (keywordEach [⟨some "start", .Constant (.int 0) j p2, kp⟩] X.env)).all (·.1.isSome) = true := by rfl) (hnone : (backToKw pos (keywordEach [⟨some "start", .Constant (.int 0) j p2, kp⟩] X.env)).any (·.1.isNone) = false := by rfl)
    (hks : (backToKw pos (keywordEach [⟨some "start", .Constant (.int 0) j p2, kp⟩] X.env)).filterMap (·.1) = [Str.ofString "start"] := by rfl) (hs : starEach [a] X.env = [(false, eval a X.env)] := by rfl) :
    PE X (.Call (.Name "sum" p) [a] [⟨some "start", .Constant (.int 0) j p2, kp⟩] pos) (tE c (e1 kSum f)) := by
  refine PE.weak (pe_callBK (cr_sum0 cy.calm) hg hm (by decide +kernel) (pa_cons ha pa_nil hs) (pk_cons pe_int pk_nil) (by decide) (by decide) he hpl hall hnone hks) ?_
  rintro σ H Q ⟨G, Γ, he, q⟩
  refine eE he q fun rx x G1 H1 _ g1 v1 fr1 he1 q1 => ?_
  rw [cy.K]
  unfold kSum at q1
  split at q1
  · rename_i ds e
    split at q1
    · rename_i bs eb
      obtain ⟨p, xs, rfl, e2, e3⟩ := v1.sql he1.gh e
      rw [D.ints_eq eb] at e3
      rw [e3.ints] at e2
      exact ⟨p, bs, rfl, rfl, e2, post_sh he1.gh q1 (.i _)⟩
    · exact q1.elim
  · exact q1.elim
def itRev (f : FE) : FI := fun Γ => (f Γ).bind fun r => (share r).bind fun d => match d.seq? with
  | some ds => .ok ds.reverse | none => .bad
theorem walk_rev {K : PySem.W.Frag} {G : Hp} {a : Addr} {xs : List V} {ds : List D} (h : SqL K G a xs) (r : Reps K G xs ds) : WalkOk K G (Itv K a xs.length) ds.reverse := by
  have hlen := r.length
  refine ⟨fun G1 H1 s1 s2 i d hi => ?_, fun H1 s1 i hi => by rw [List.length_reverse] at hi; show xs.length ≤ i; omega⟩
  have hil : i < ds.length := by
    rcases Nat.lt_or_ge i ds.length with h | h
    · exact h
    · rw [List.getElem?_eq_none (by simpa using h)] at hi; cases hi
  rw [List.getElem?_reverse hil] at hi
  obtain ⟨v, hv, rv⟩ := r.get' hi
  rw [← hlen] at hv
  have h1 := s2.seq (s1.seq h)
  refine ⟨⟨by omega, xs, v, h1, hv⟩, ?_⟩
  rintro x H2 ⟨rfl, hx⟩
  have e := hx xs h1
  rw [hv] at e
  cases e
  exact ⟨G1, .refl s2, rv.mono s1⟩
theorem ri_rev (cy : Cy X c) {p : Pos} (hg : Gl X "reversed") (hm : X.mg "reversed" = none) (ha : PE X e (tE c f)) (hs : starEach [e] X.env = [(false, eval e X.env)] := by rfl) : PI X tg (.Call (.Name "reversed" p) [e] [] pos) (tI c (itRev f)) := by
  refine PI.weak (pi_reversed hg hm (pa_cons ha pa_nil hs) hs) ?_
  rintro σ H R ⟨G, Γ, he, q⟩
  refine iE0 he q fun r v G1 H1 eq1 g1 v1 fr q1 => ?_
  cases e1 : share r with
  | bad => rw [e1] at q1; exact q1.elim
  | ex x => cases r <;> cases e1
  | ok d =>
    rw [e1] at q1
    obtain ⟨G2, g2, s2, rp⟩ := v1.share g1 fr e1
    simp only [Re.bind_ok] at q1
    rw [cy.K]
    cases d with
    | l ds =>
      obtain ⟨a, xs, rfl, h1, h2⟩ := rp.l_inv
      exact ⟨a, xs, rfl, .of (g2.gh _ _ h1), q1 _ _ _ g2 (walk_rev (.of h1) h2)⟩
    | z ds =>
      obtain ⟨a, xs, rfl, h1, h2⟩ := rp.z_inv
      exact ⟨a, xs, rfl, g2.gh.seq h1, q1 _ _ _ g2 (walk_rev h1 h2)⟩
    | _ => exact q1.elim
end
section
variable {m : Nat} {L : Lk} {k k1 k2 k3 k4 k5 : Kd} {α β γ δ ε τ ω S : Type} {e : τ → D} {ea : α → D} {eb : β → D} {f g h : FE}
theorem ir_rev {x : Re (List τ)} (hk : k1.ok = true) (hx : ER m L k1 (eL e) x f) : IR m L e (x.bind fun xs => .ok xs.reverse) (itRev f) := fun Γ hΓ => by
  have h1 := hx Γ hΓ
  unfold itRev
  cases x with
  | ok a =>
    have h1 : f Γ = .ok _ := h1
    rw [h1]
    cases k1 <;> first | (show Re.ok (List.map e a).reverse = Re.ok (List.map e a.reverse); rw [List.map_reverse]) | cases hk
  | ex z => have h1 : f Γ = .ex z := h1; rw [h1]; rfl
  | bad => trivial
theorem o_isU {a b : Unit} : RE1 .sh eB (.ok true) (kIs false (Kd.sh.v (eU a)) (Kd.sh.v (eU b))) := rfl
theorem o_notU {a b : Unit} : RE1 .sh eB (.ok false) (kIs true (Kd.sh.v (eU a)) (Kd.sh.v (eU b))) := rfl
theorem bg_weak {P : ω → Fl → Prop} {T : Re ω} {u : FS} {L' : Lk} (hs : subL L' L) (h : BG m L' P T u) : BG m L P T u := fun Γ hΓ => h Γ (hΓ.sub hs)
@[irreducible] def ixsT (x : Str) (k : Int) : Re Str := if x.length ≤ 16777216 then (match L2.atI x.cps.toList k with | some ch => .ok ⟨#[ch]⟩ | none => .bad) else .bad
theorem ixsT_ok {x : Str} {k : Int} {ch : Nat} (h : x.length ≤ 16777216) (h2 : L2.atI x.cps.toList k = some ch) : ixsT x k = .ok ⟨#[ch]⟩ := by unfold ixsT; rw [if_pos h, h2]
theorem o_ixs {x : Str} {n : Int} : RE1 .sh eS (ixsT x n) (kIx (k1.v (eS x)) (k2.v (eI n))) := by
  have : kIx (k1.v (eS x)) (k2.v (eI n)) = if x.length ≤ 16777216 then (match L2.atI x.cps.toList n with | some ch => .ok (.sh (.s ⟨#[ch]⟩)) | none => .bad) else .bad := by cases k1 <;> cases k2 <;> rfl
  rw [this]
  unfold ixsT
  split
  · split
    · rfl
    · trivial
  · trivial
end
end Ly
end

section
set_option maxRecDepth 100000
set_option maxHeartbeats 1000000
namespace ZipS
open PySem PySem.Spec PyProof.Rows
open Sem (wp)
def zo (f TI TO : Value) : Obj := { cls := .type "zip", dict := none, data := .fields #[f, .bool false, .bool true, TI, TO], slots := #[] }
def two (a b : Value) : Obj := { cls := .type "tuple", data := .seq #[a, b] }
def li (l : Addr) : Obj := { cls := .type "list_iterator", data := .fields #[.ref l, .int 0 0] }
def n1 (h : Heap) (l1 : Addr) : Heap := h.push (li l1)
def n2 (h : Heap) (l1 l2 : Addr) : Heap := (n1 h l1).push (li l2)
def n3 (h : Heap) (l1 l2 : Addr) : Heap := (n2 h l1 l2).push (two (.ref h.objs.size) (.ref (n1 h l1).objs.size))
def n4 (h : Heap) (l1 l2 : Addr) : Heap := (n3 h l1 l2).push (two .none .none)
def n5 (h : Heap) (l1 l2 : Addr) : Heap := (n4 h l1 l2).push (zo .none (.ref (n2 h l1 l2).objs.size) (.ref (n3 h l1 l2).objs.size))
theorem tc (a b c : Value) : checkTypeCall "zip" ⟨[a, b], [(Str.ofString "strict", c)]⟩ = pure () := by kernel_rfl
theorem nc (a b c : Value) : checkBuiltinCall "zip.__new__" ⟨[.type "zip", a, b], [(Str.ofString "strict", c)]⟩ = pure () := by kernel_rfl
theorem ok3 (o a b c : Value) : argsOk "object.__init__" ⟨[o, a, b], [(Str.ofString "strict", c)]⟩ := by unfold argsOk; kernel_rfl
theorem made (l1 l2 : Addr) (xs ys : Array Value) : Meets (Builtin.«zip.__new__» ⟨[.type "zip", .ref l1, .ref l2], [(Str.ofString "strict", .bool true)]⟩)
    (fun _ R s => s.heap.IsList l1 xs ∧ s.heap.IsList l2 ys ∧ R (.ok (.ret (.ref (n4 s.heap l1 l2).objs.size))) { s with heap := n5 s.heap l1 l2 }) :=
  .of_wp fun prog w A R ⟨hp, g, d, tk, os⟩ ⟨h1, h2, h⟩ => by
    have hsub := sub_zip
    have k1 : Heap.IsList (Shared.heap ⟨hp, g, d, tk, os⟩) l1 xs := h1
    have k2 : Heap.IsList (Shared.heap ⟨n1 hp l1, g, d, tk, os⟩) l2 ys := Heap.IsList.push h2 _
    have e1 : (Str.ofString "strict" == ("strict" : Str)) = true := by decide +kernel
    have e2 : (Str.ofString "strict" != ("strict" : Str)) = false := by decide +kernel
    unfold n1 li at k2
    unfold n5 n4 n3 n2 n1 zo two li at h
    wp_walk using wpAny_pyIter_list k1, wpAny_pyIter_list k2
    exact ⟨_, rfl, h⟩
end ZipS
end

section
set_option maxRecDepth 100000
set_option maxHeartbeats 1000000
namespace ZipS
open PySem PySem.Spec PyProof.Rows
open Sem (wp)
structure At (h : Heap) (z TI TO i1 i2 l1 l2 : Addr) (f : Value) (k : Nat) : Prop where
  z : h.get? z = some (zo f (.ref TI) (.ref TO))
  ti : h.get? TI = some (two (.ref i1) (.ref i2))
  to : ∃ a b, h.get? TO = some (two a b)
  i1 : h.IsListIter i1 l1 k
  i2 : h.IsListIter i2 l2 k
section
variable {prog : Program} {w : World} {A : Around} {E : Value → Shared → Prop} {s : Shared} {z TI TO i1 i2 l1 l2 : Addr} {k : Nat} {xs ys : Array Value}
theorem orEnd {it : Value} {Q : Option Value → Shared → Prop} (h : wpAny (model prog w) A (Builtin.SmallTypes.nextOf it) (fun v s' => Q (some v) s') (fun e s' => (∃ a o, e = .ref a ∧ s'.heap.get? a = some o ∧ o.cls = .type "StopIteration") ∧ Q none s') s) :
    wpAny (model prog w) A (Builtin.SmallTypes.nextOrEnd it) Q E s := by
  unfold Builtin.SmallTypes.nextOrEnd
  refine wpAny_bind (wpAny_attempt (wpAny_mono h (fun v s' q => wpAny_pure q) fun e s' q => ?_))
  obtain ⟨⟨a, o, rfl, e1, e2⟩, q⟩ := q
  exact wpAny_bind (wpAny_isInstance (T := "StopIteration") (b := true) ⟨o, e1, e2⟩ isSubtype_stop (wpAny_pure q))
theorem itemOf {it l : Addr} {v : Value} {ws : Array Value} {Q : Option Value → Shared → Prop} (hi : s.heap.IsListIter it l k) (hl : s.heap.IsList l ws) (e : ws[k]? = some v)
    (hQ : ∀ h', h'.IsListIter it l (k + 1) → Heap.SameBut it s.heap h' → Q (some v) { s with heap := h' }) : wpAny (model prog w) A (Builtin.SmallTypes.nextOrEnd (.ref it)) Q E s :=
  orEnd (wpAny_nextOf_list_item hi hl e hQ)
theorem endOf {it l : Addr} {ws : Array Value} {Q : Option Value → Shared → Prop} (hh : A.handled = none) (hi : s.heap.IsListIter it l k) (hl : s.heap.IsList l ws) (e : ws[k]? = none)
    (hQ : ∀ h', Heap.ExtBut it s.heap h' → Q none { s with heap := h' }) : wpAny (model prog w) A (Builtin.SmallTypes.nextOrEnd (.ref it)) Q E s :=
  orEnd (wpAny_nextOf_list_end hh hi hl e fun h' a x ⟨o, e1, e2⟩ => ⟨⟨a, o, rfl, e1, e2⟩, hQ h' x⟩)
theorem setF {h : Shared} {f v TI' TO' : Value} {Q : Unit → Shared → Prop} (hz : h.heap.get? z = some (zo f TI' TO')) (q : ∀ h', h'.get? z = some (zo v TI' TO') → Heap.SameBut z h.heap h' → Q () { h with heap := h' }) :
    wpAny (model prog w) A (setField (.ref z) 0 v) Q E h := by
  refine wpAny_setField_rec hz (by simp) fun h' e sb => q h' ?_ sb
  rw [e]; rfl
theorem setF1 {h : Shared} {f TI' TO' : Value} {Q : Unit → Shared → Prop} (hz : h.heap.get? z = some (zo f TI' TO')) (q : ∀ h', h'.get? z = some (zo f TI' TO') → Heap.SameBut z h.heap h' → Q () { h with heap := h' }) :
    wpAny (model prog w) A (setField (.ref z) 1 (.bool false)) Q E h := by
  refine wpAny_setField_rec hz (by simp) fun h' e sb => q h' ?_ sb
  rw [e]; rfl
theorem setT {h : Shared} {a b v : Value} {j : Nat} {Q : Unit → Shared → Prop} (hT : h.heap.get? TO = some (two a b)) (q : ∀ h', (∃ a' b', h'.get? TO = some (two a' b') ∧ (j = 0 → v = a' ∧ b = b') ∧ (j = 1 → a = a' ∧ v = b')) → Heap.SameBut TO h.heap h' → Q () { h with heap := h' }) :
    wpAny (model prog w) A (updateSeq TO (·.setIfInBounds j v)) Q E h := by
  refine wpAny_updateSeq hT rfl (q _ ?_ (Heap.SameBut.update ..))
  rw [Heap.get?_update_self _ hT rfl]
  match j with
  | 0 => exact ⟨v, b, rfl, (fun _ => ⟨rfl, rfl⟩), (fun e => by cases e)⟩
  | 1 => exact ⟨a, v, rfl, (fun e => by cases e), (fun _ => ⟨rfl, rfl⟩)⟩
  | j + 2 => exact ⟨a, b, by simp [Obj.mapSeq, two], (fun e => by cases e), (fun e => by omega)⟩
theorem step (D : ZipApart z TI TO i1 i2 l1 l2) {x y : Value} {Q : Value → Shared → Prop} (a : At s.heap z TI TO i1 i2 l1 l2 .none k) (h1 : s.heap.IsList l1 xs) (h2 : s.heap.IsList l2 ys) (ex : xs[k]? = some x) (ey : ys[k]? = some y)
    (hQ : ∀ h', At h' z TI TO i1 i2 l1 l2 (rawInt s.heap.objs.size) (k + 1) → h'.get? s.heap.objs.size = some (two x y) →
      (∀ c o, c ≠ z → c ≠ TO → c ≠ i1 → c ≠ i2 → s.heap.get? c = some o → h'.get? c = some o) → Q (.ref s.heap.objs.size) { s with heap := h' }) :
    wpAny (model prog w) A (Builtin.«zip.__next__» ⟨[.ref z], []⟩) (fun fin s' => ∃ v, fin = .done (.ret v) ∧ Q v s') E s := by
  obtain ⟨hz, hTI, ⟨a0, b0, hTO⟩, j1, j2⟩ := a
  have zT : z ≠ TO := D.TOz.symm
  have fld : ∀ {h : Shared} {f : Value} {j : Nat} {v : Value} {R : Value → Shared → Prop}, h.heap.get? z = some (zo f (.ref TI) (.ref TO)) → (#[f, .bool false, .bool true, .ref TI, .ref TO] : Array Value)[j]? = some v → R v h → wpAny (model prog w) A (field (.ref z) j) R E h :=
    fun e e' r => wpAny_field e rfl e' r
  show wpAny _ _ (field (.ref z) 2 >>= _) _ _ _
  refine wpAny_bind (fld hz rfl ?_)
  show wpAny _ _ (field (.ref z) 3 >>= _) _ _ _
  refine wpAny_bind (fld hz rfl (wpAny_bind (wpAny_seqItems hTI rfl ?_)))
  show wpAny _ _ (Builtin.SmallTypes.ownedTupleIsFree (.ref z) >>= _) _ _ _
  unfold Builtin.SmallTypes.ownedTupleIsFree
  refine wpAny_bind (wpAny_bind (fld hz rfl (wpAny_pure ?_)))
  simp only [if_true]
  refine wpAny_bind (wpAny_rule (wpAny_bind (fld hz rfl (wpAny_bind (setF hz fun g1 z1 c1 => ?_)))))
  refine wpAny_bind ?_
  simp only [List.zipIdx_cons, List.zipIdx_nil, List.forIn_cons, List.forIn_nil]
  have p1 := h1.extBut c1.extBut D.l1z
  refine wpAny_bind (wpAny_bind (wpAny_onRaise (show wpAny _ _ (Builtin.SmallTypes.nextOrEnd (.ref i1)) _ _ _ from itemOf (j1.extBut c1.extBut D.i1z) p1 ex fun g2 k2 c2 => ?_)))
  have t2 : g2.get? TO = some (two a0 b0) := c2.extBut _ _ D.TOi1 (c1.extBut _ _ D.TOz hTO)
  refine wpAny_bind (wpAny_seqItems t2 rfl (wpAny_bind (setT t2 fun g3 ⟨a3, b3, t3, q3, _⟩ c3 => wpAny_bind (wpAny_letGo (wpAny_pure ?_)))))
  obtain ⟨rfl, rfl⟩ := q3 rfl
  refine wpAny_bind (wpAny_bind (wpAny_onRaise (show wpAny _ _ (Builtin.SmallTypes.nextOrEnd (.ref i2)) _ _ _ from itemOf (((j2.extBut c1.extBut D.i2z).extBut c2.extBut D.i12.symm).extBut c3.extBut D.TOi2.symm) (((h2.extBut c1.extBut D.l2z).extBut c2.extBut D.l2i1).extBut c3.extBut D.l2TO) ey fun g4 k4 c4 => ?_)))
  have t4 := c4.extBut _ _ D.TOi2 t3
  refine wpAny_bind (wpAny_seqItems t4 rfl (wpAny_bind (setT t4 fun g5 ⟨a5, b5, t5, _, q5⟩ c5 => wpAny_bind (wpAny_letGo (wpAny_pure (wpAny_pure ?_))))))
  obtain ⟨rfl, rfl⟩ := q5 rfl
  refine wpAny_bind (wpAny_seqItems t5 rfl (wpAny_bind (wpAny_newTuple ?_)))
  have size : g5.objs.size = s.heap.objs.size := by rw [c5.1, c4.1, c3.1, c2.1, c1.1]
  have all : ∀ c o, c ≠ z → c ≠ TO → c ≠ i1 → c ≠ i2 → s.heap.get? c = some o → g5.get? c = some o := fun c o q1 q2 q3 q4 e => c5.extBut _ _ q2 (c4.extBut _ _ q4 (c3.extBut _ _ q2 (c2.extBut _ _ q3 (c1.extBut _ _ q1 e))))
  have z5 := c5.extBut _ _ zT (c4.extBut _ _ D.i2z.symm (c3.extBut _ _ zT (c2.extBut _ _ D.i1z.symm z1)))
  show wpAny _ _ (Builtin.SmallTypes.ownedTupleHandOut (.ref z) (.ref g5.objs.size) >>= _) _ _ _
  unfold Builtin.SmallTypes.ownedTupleHandOut
  refine wpAny_bind (wpAny_bind (setF (Heap.get?_push_of_some _ z5) fun g6 z6 c6 => ?_))
  refine setF1 z6 fun g7 z7 c7 => ?_
  refine wpAny_pure ?_
  refine ⟨_, rfl, ?_⟩
  have up : ∀ c o, c ≠ z → g5.get? c = some o → g7.get? c = some o := fun c o q e => c7.extBut _ _ q (c6.extBut _ _ q (Heap.get?_push_of_some _ e))
  have nz : g5.objs.size ≠ z := Nat.ne_of_gt (Heap.lt_size z5)
  have t7 : g7.get? g5.objs.size = some (two x y) := c7.extBut _ _ nz (c6.extBut _ _ nz (Heap.get?_push_size _ rfl))
  show Q (.ref g5.objs.size) _
  rw [size] at t7 z7 ⊢
  refine hQ g7 ⟨z7, up _ _ D.TIz (all _ _ D.TIz D.TITO D.TIi1 D.TIi2 hTI), ⟨_, _, up _ _ D.TOz t5⟩, ?_, ?_⟩ t7 fun c o q1 q2 q3 q4 e => up c o q1 (all c o q1 q2 q3 q4 e)
  · exact (((k2.extBut c3.extBut D.TOi1.symm).extBut c4.extBut D.i12).extBut c5.extBut D.TOi1.symm).at fun o e => up _ o D.i1z e
  · exact (k4.extBut c5.extBut D.TOi2.symm).at fun o e => up _ o D.i2z e
theorem stops {Q : Fin → Shared → Prop} (hh : A.handled = none) (hE : ∀ h' e, (∀ c o, s.heap.get? c = some o → h'.get? c = some o) → (∃ o, h'.get? e = some o ∧ o.cls = .type "StopIteration") → E (.ref e) { s with heap := h' }) :
    wpAny (model prog w) A (Builtin.SmallTypes.stopIteration) Q E s := by
  unfold Builtin.SmallTypes.stopIteration
  repeat (any_goals (first | assumption | wp_step))
  unfold raiseNew
  refine wpAny_bind (wpAny_handled ?_)
  rw [hh]
  exact wpAny_bind (wpAny_pure (wpAny_throw (hE _ _ (fun c o e => Heap.get?_push_of_some _ (Heap.get?_push_of_some _ e)) ⟨_, Heap.get?_push_size _ rfl, rfl⟩)))
theorem stop (D : ZipApart z TI TO i1 i2 l1 l2) {Q : Fin → Shared → Prop} (hh : A.handled = none) (a : At s.heap z TI TO i1 i2 l1 l2 .none k) (h1 : s.heap.IsList l1 xs) (h2 : s.heap.IsList l2 ys) (ex : xs[k]? = none) (ey : ys[k]? = none)
    (hE : ∀ h' e, (∀ c o, c ≠ z → c ≠ TO → c ≠ i1 → c ≠ i2 → s.heap.get? c = some o → h'.get? c = some o) → (∃ o, h'.get? e = some o ∧ o.cls = .type "StopIteration") → E (.ref e) { s with heap := h' }) :
    wpAny (model prog w) A (Builtin.«zip.__next__» ⟨[.ref z], []⟩) Q E s := by
  obtain ⟨hz, hTI, ⟨a0, b0, hTO⟩, j1, j2⟩ := a
  have fld : ∀ {h : Shared} {f : Value} {j : Nat} {v : Value} {R : Value → Shared → Prop}, h.heap.get? z = some (zo f (.ref TI) (.ref TO)) → (#[f, .bool false, .bool true, .ref TI, .ref TO] : Array Value)[j]? = some v → R v h → wpAny (model prog w) A (field (.ref z) j) R E h :=
    fun e e' r => wpAny_field e rfl e' r
  show wpAny _ _ (field (.ref z) 2 >>= _) _ _ _
  refine wpAny_bind (fld hz rfl ?_)
  show wpAny _ _ (field (.ref z) 3 >>= _) _ _ _
  refine wpAny_bind (fld hz rfl (wpAny_bind (wpAny_seqItems hTI rfl ?_)))
  show wpAny _ _ (Builtin.SmallTypes.ownedTupleIsFree (.ref z) >>= _) _ _ _
  unfold Builtin.SmallTypes.ownedTupleIsFree
  refine wpAny_bind (wpAny_bind (fld hz rfl (wpAny_pure ?_)))
  simp only [if_true]
  refine wpAny_bind (wpAny_rule (wpAny_bind (fld hz rfl (wpAny_bind (setF hz fun g1 z1 c1 => ?_)))))
  refine wpAny_bind ?_
  simp only [List.zipIdx_cons, List.zipIdx_nil, List.forIn_cons, List.forIn_nil]
  refine wpAny_bind (wpAny_bind (wpAny_onRaise (show wpAny _ _ (Builtin.SmallTypes.nextOrEnd (.ref i1)) _ _ _ from endOf hh (j1.extBut c1.extBut D.i1z) (h1.extBut c1.extBut D.l1z) ex fun g2 c2 => ?_)))
  have z2 := c2 _ _ D.i1z.symm z1
  refine wpAny_bind (setF z2 fun g3 z3 c3 => wpAny_bind ?_)
  have j3 := ((j2.extBut c1.extBut D.i2z).extBut c2 D.i12.symm).extBut c3.extBut D.i2z
  have l3 := ((h2.extBut c1.extBut D.l2z).extBut c2 D.l2i1).extBut c3.extBut D.l2z
  have q1 : ∀ {R : Option Value → Shared → Prop}, (∀ h', Heap.ExtBut i2 g3 h' → R none { s with heap := h' }) → wpAny (model prog w) A (Builtin.SmallTypes.nextOrEnd (.ref i2)) R E { s with heap := g3 } := fun r => endOf (s := { s with heap := g3 }) hh j3 l3 ey r
  have q2 : ∀ {R : PySem.Fin → Shared → Prop} {h : Heap}, (∀ c o, c ≠ z → c ≠ TO → c ≠ i1 → c ≠ i2 → s.heap.get? c = some o → h.get? c = some o) → wpAny (model prog w) A (Builtin.SmallTypes.stopIteration) R E { s with heap := h } :=
    fun {R h} r => stops (s := { s with heap := h }) hh fun h' e k he => hE h' e (fun c o a1 a2 a3 a4 x => k c o (r c o a1 a2 a3 a4 x)) he
  iterate 3 wp_step
  simp only [List.drop_succ_cons, List.drop_zero, List.zipIdx_cons, List.zipIdx_nil, List.forIn_cons, List.forIn_nil]
  refine wpAny_bind (wpAny_bind (q1 fun g4 c4 => ?_))
  simp only [Option.isSome_none, Bool.false_eq_true, if_false]
  refine wpAny_pure (wpAny_pure (wpAny_bind (wpAny_rule (q2 fun c o a1 a2 a3 a4 x => ?_))))
  exact c4 _ _ a4 (c3.extBut _ _ a1 (c2 _ _ a3 (c1.extBut _ _ a1 x)))
end
end ZipS
end

section
set_option maxRecDepth 100000
set_option maxHeartbeats 1000000
namespace ZipS
open PySem PySem.Spec PyProof.Rows
open Sem (wp)
section
variable {prog : Program} {w : World} {A : Around} {E : Value → Shared → Prop} {s : Shared} {z TI TO i1 i2 l1 l2 : Addr} {k : Nat} {xs ys : Array Value}
theorem is_zip {h : Shared} {f a b : Value} (hz : h.heap.get? z = some (zo f a b)) : h.TypeIs (.ref z) "zip" := ⟨_, hz, rfl⟩
theorem next1 (D : ZipApart z TI TO i1 i2 l1 l2) {x y : Value} {Q : Option Value → Shared → Prop} (a : At s.heap z TI TO i1 i2 l1 l2 .none k) (h1 : s.heap.IsList l1 xs) (h2 : s.heap.IsList l2 ys) (ex : xs[k]? = some x) (ey : ys[k]? = some y)
    (hQ : ∀ h', At h' z TI TO i1 i2 l1 l2 (rawInt s.heap.objs.size) (k + 1) → h'.get? s.heap.objs.size = some (two x y) →
      (∀ c o, c ≠ z → c ≠ TO → c ≠ i1 → c ≠ i2 → s.heap.get? c = some o → h'.get? c = some o) → Q (some (.ref s.heap.objs.size)) { s with heap := h' }) : wpAny (model prog w) A (pyNext (.ref z)) Q E s := by
  unfold pyNext
  exact wpAny_bind (wpAny_attempt (wpAny_callSpecial?_slot (name := Str.ofString "__next__") (is_zip a.z) F.slot_zip_next (wpAny_call_entry F.slot_zip_next (is_zip a.z) F.entry_zip_next
    (step D a h1 h2 ex ey fun h' q1 q2 q3 => wpAny_pure (hQ h' q1 q2 q3)) (F.args_zip_next_1 _))))
theorem next0 (D : ZipApart z TI TO i1 i2 l1 l2) {Q : Option Value → Shared → Prop} (hh : A.handled = none) (a : At s.heap z TI TO i1 i2 l1 l2 .none k) (h1 : s.heap.IsList l1 xs) (h2 : s.heap.IsList l2 ys) (ex : xs[k]? = none) (ey : ys[k]? = none)
    (hQ : ∀ h', (∀ c o, c ≠ z → c ≠ TO → c ≠ i1 → c ≠ i2 → s.heap.get? c = some o → h'.get? c = some o) → Q none { s with heap := h' }) : wpAny (model prog w) A (pyNext (.ref z)) Q E s := by
  unfold pyNext
  refine wpAny_bind (wpAny_attempt (wpAny_callSpecial?_slot (name := Str.ofString "__next__") (is_zip a.z) F.slot_zip_next (wpAny_call_entry F.slot_zip_next (is_zip a.z) F.entry_zip_next
    (stop D hh a h1 h2 ex ey fun h' e q1 ⟨o, q2, q3⟩ => ?_) (F.args_zip_next_1 _))))
  exact wpAny_bind (wpAny_isInstance (T := "StopIteration") (b := true) ⟨o, q2, q3⟩ isSubtype_stop (wpAny_pure (hQ _ q1)))
theorem lets {elts : List Expr} {kk : Nat} {pos : Pos} {T : Addr} {Q : Unit → Shared → Prop} (hz : s.heap.get? z = some (zo (rawInt T) (.ref TI) (.ref TO))) (hQ : ∀ h', h'.get? z = some (zo .none (.ref TI) (.ref TO)) → Heap.SameBut z s.heap h' → Q () { s with heap := h' }) :
    wpAny (model prog w) A (letOwnedTupleGo (.Tuple elts kk pos) (.ref z) (.ref T)) Q E s := by
  unfold letOwnedTupleGo
  refine wpAny_bind (wpAny_load hz (show wpAny _ _ (if (["enumerate", "zip", "dict_itemiterator", "dict_reverseitemiterator", "odict_iterator", "itertools.zip_longest", "itertools.pairwise"].contains "zip" && (#[rawInt T, .bool false, .bool true, .ref TI, .ref TO] : Array Value)[0]? == some (rawInt T)) = true then _ else _) Q E s from ?_))
  rw [if_pos (by simp)]
  exact wpAny_bind (wpAny_rule (show wpAny _ _ (setField (.ref z) 0 .none) Q E s from setF hz hQ))
theorem iterS {f a b : Value} {Q : Value → Shared → Prop} (hz : s.heap.get? z = some (zo f a b)) (q : Q (.ref z) s) : wpAny (model prog w) A (pyIter (.ref z)) Q E s :=
  wpAny_pyIter_slot (is_zip hz) F.slot_zip_iter (wpAny_call_entry F.slot_zip_iter (is_zip hz) F.entry_zip_iter (show wpAny _ _ (ret (.ref z)) _ _ s from wpAny_pure ⟨_, rfl, "zip", _, is_zip hz, F.slot_zip_next.lookup, q⟩) (F.args_zip_iter_1 _))
theorem call_zs {Q : Value → Shared → Prop} (h1 : s.heap.IsList l1 xs) (h2 : s.heap.IsList l2 ys)
    (q : ∀ h', At h' (s.heap.objs.size + 4) (s.heap.objs.size + 2) (s.heap.objs.size + 3) s.heap.objs.size (s.heap.objs.size + 1) l1 l2 .none 0 → (∀ c o, s.heap.get? c = some o → h'.get? c = some o) → Q (.ref (s.heap.objs.size + 4)) { s with heap := h' }) :
    wpAny (model prog w) A (call (.type "zip") [.ref l1, .ref l2] [(Str.ofString "strict", .bool true)]) Q E s := by
  refine callType_newKw F.called_zip (by decide) (tc _ _ _) (nc _ _ _) (fun o => ok3 o _ _ _) F.entry_zip_new (made l1 l2 xs ys) ⟨h1, h2, ?_⟩
  have s1 : (n1 s.heap l1).objs.size = s.heap.objs.size + 1 := by unfold n1; exact Heap.size_push ..
  have s2 : (n2 s.heap l1 l2).objs.size = s.heap.objs.size + 2 := by unfold n2; rw [Heap.size_push, s1]
  have s3 : (n3 s.heap l1 l2).objs.size = s.heap.objs.size + 3 := by unfold n3; rw [Heap.size_push, s2]
  have s4 : (n4 s.heap l1 l2).objs.size = s.heap.objs.size + 4 := by unfold n4; rw [Heap.size_push, s3]
  have up : ∀ {h : Heap} {o : Obj} {c : Addr} {u : Obj}, h.get? c = some u → (h.push o).get? c = some u := fun e => Heap.get?_push_of_some _ e
  have top : ∀ {h : Heap} {o : Obj} {c : Addr}, o.isFreed = false → h.objs.size = c → (h.push o).get? c = some o := fun f e => by rw [← e]; exact Heap.get?_push_size _ f
  have k1 : (n5 s.heap l1 l2).get? s.heap.objs.size = some (li l1) := by unfold n5 n4 n3 n2 n1; exact up (up (up (up (top rfl rfl))))
  have k2 : (n5 s.heap l1 l2).get? (s.heap.objs.size + 1) = some (li l2) := by unfold n5 n4 n3 n2; exact up (up (up (top rfl s1)))
  have k3 : (n5 s.heap l1 l2).get? (s.heap.objs.size + 2) = some (two (.ref s.heap.objs.size) (.ref (s.heap.objs.size + 1))) := by unfold n5 n4 n3; rw [← s1]; exact up (up (top rfl s2))
  have k4 : (n5 s.heap l1 l2).get? (s.heap.objs.size + 3) = some (two .none .none) := by unfold n5 n4; exact up (top rfl s3)
  have k5 : (n5 s.heap l1 l2).get? (s.heap.objs.size + 4) = some (zo .none (.ref (s.heap.objs.size + 2)) (.ref (s.heap.objs.size + 3))) := by unfold n5; rw [← s2, ← s3]; exact top rfl s4
  show _ ∧ _
  rw [s4]
  exact ⟨is_zip (h := { s with heap := n5 s.heap l1 l2 }) k5, q _ ⟨k5, k3, ⟨_, _, k4⟩, ⟨_, k1, rfl, rfl⟩, ⟨_, k2, rfl, rfl⟩⟩ fun c o e => by unfold n5 n4 n3 n2 n1; exact up (up (up (up (up e))))⟩
end
end ZipS
end

section
set_option maxRecDepth 100000
set_option maxHeartbeats 1000000
namespace ZipS
open PySem PySem.Spec PyProof.Rows L2
def ItS (K : PySem.W.Frag) (a b : Addr) : It :=
  ⟨(Itz K a b).go, (Itz K a b).yld, fun i H => ∃ xs ys : List V, SqL K H a xs ∧ SqL K H b ys ∧ xs.length ≤ i ∧ ys.length ≤ i⟩
theorem five {z TI TO i1 i2 c : Addr} (h : c ∈ [z, TI, TO, i1, i2]) : c = z ∨ c = TI ∨ c = TO ∨ c = i1 ∨ c = i2 := by simpa using h
theorem At.there {h : Heap} {z TI TO i1 i2 a b : Addr} {f : Value} {k : Nat} (t : At h z TI TO i1 i2 a b f k) {c : Addr} (hc : c ∈ [z, TI, TO, i1, i2]) : ∃ o, h.get? c = some o ∧ ∀ v, o.data ≠ .cell v := by
  obtain ⟨hz, hTI, ⟨x, y, hTO⟩, ⟨o1, e1, _, d1⟩, ⟨o2, e2, _, d2⟩⟩ := t
  rcases five hc with rfl | rfl | rfl | rfl | rfl
  · exact ⟨_, hz, fun v q => by cases q⟩
  · exact ⟨_, hTI, fun v q => by cases q⟩
  · exact ⟨_, hTO, fun v q => by cases q⟩
  · exact ⟨o1, e1, fun v q => by rw [d1] at q; cases q⟩
  · exact ⟨o2, e2, fun v q => by rw [d2] at q; cases q⟩
theorem At.keep {h h' : Heap} {z TI TO i1 i2 a b : Addr} {f : Value} {k : Nat} (t : At h z TI TO i1 i2 a b f k) (q : ∀ c ∈ [z, TI, TO, i1, i2], ∀ o, h.get? c = some o → h'.get? c = some o) : At h' z TI TO i1 i2 a b f k := by
  obtain ⟨hz, hTI, ⟨x, y, hTO⟩, h1, h2⟩ := t
  exact ⟨q z (by simp) _ hz, q TI (by simp) _ hTI, ⟨x, y, q TO (by simp) _ hTO⟩, h1.at fun o e => q i1 (by simp) o e, h2.at fun o e => q i2 (by simp) o e⟩
theorem turnS {P : Program} {w : World} {K : PySem.W.Frag} {elts : List Expr} {kk : Nat} {tpos : Pos} {a b z TI TO i1 i2 : Addr} (D : ZipApart z TI TO i1 i2 a b) :
    Turn P w K (.Tuple elts kk tpos) (ItS K a b) [z, TI, TO, i1, i2] z (fun i h => At h z TI TO i1 i2 a b .none i) where
  mem := List.mem_cons_self
  obj := fun i h t c hc => t.there hc
  keep := fun i h h' t q => t.keep q
  self := fun A i s Q E t h => iterS t.z h
  done := by
    intro X hP hw hK hc i pins s σ H E I hf t ⟨xs, ys, q1, q2, e1, e2⟩
    subst hP hw hK
    obtain ⟨us, r1, p1, _⟩ := I.list q1
    obtain ⟨ws, r2, p2, _⟩ := I.list q2
    have n1 := r1.length
    have n2 := r2.length
    refine next0 D (I.ok.hd hc) t p1.isList p2.isList (by simp; omega) (by simp; omega) fun h' hk => ⟨rfl, I.turnedL (t' := s.toks) (ch := [z, TI, TO, i1, i2]) (fun c o hb q => ?_) hf⟩
    simp only [List.mem_cons, List.not_mem_nil, or_false, not_or] at hb
    exact hk c o hb.1 hb.2.2.1 hb.2.2.2.1 hb.2.2.2.2 q
  item := by
    intro X hP hw hK hc i pins s σ H E I hf t ⟨xs, ys, x, y, q1, q2, ex, ey⟩
    subst hP hw hK
    obtain ⟨us, r1, p1, _⟩ := I.list q1
    obtain ⟨ws, r2, p2, _⟩ := I.list q2
    obtain ⟨u, eu, ru⟩ := r1.get ex
    obtain ⟨v, ev, rv⟩ := r2.get ey
    have zl := Heap.lt_size t.z
    refine next1 D t p1.isList p2.isList (x := u) (y := v) (by simpa using eu) (by simpa using ev) fun h1 t1 g1 k1 => ⟨_, rfl, ?_⟩
    refine lets (s := { s with heap := h1 }) t1.z fun h2 z2 sb => ?_
    have g2 : h2.get? s.heap.objs.size = some (two u v) := (sb.2 _ (Nat.ne_of_gt zl)).trans g1
    have I1 : Inv X pins σ (upd H s.heap.objs.size (.tup [x, y])) { s with heap := h2 } :=
      I.turnedNew (t' := s.toks) (ch := [z, TI, TO, i1, i2]) (fun c o hb q => by
        simp only [List.mem_cons, List.not_mem_nil, or_false, not_or] at hb
        exact (sb.2 c hb.1).trans (k1 c o hb.1 hb.2.2.1 hb.2.2.2.1 hb.2.2.2.2 q)) hf (Nat.le_refl _) ⟨(by show 2 ≤ sizeLine; decide), [u, v], .cons ru (.cons rv .nil), ⟨_, g2, rfl, _, rfl⟩⟩
    obtain ⟨_, tTI, ⟨x1, y1, tTO⟩, t4, t5⟩ := t1
    refine ⟨.ref s.heap.objs.size, _, I1, rfl, ⟨_, x, y, rfl, I.hok.fresh (Nat.le_refl _), rfl, (fun l hl => by rw [I.list_inj hl q1]; exact ex), (fun l hl => by rw [I.list_inj hl q2]; exact ey)⟩,
      ⟨z2, (sb.2 _ D.TIz).trans tTI, ⟨x1, y1, (sb.2 _ D.TOz).trans tTO⟩, t4.at fun o q => (sb.2 _ D.i1z).trans q, t5.at fun o q => (sb.2 _ D.i2z).trans q⟩, fun c hcm => ?_⟩
    obtain ⟨o, eo, _⟩ := t.there hcm
    rw [upd_ne (Nat.ne_of_lt (Heap.lt_size eo))]
    exact (hf c hcm).1
section
variable {M : Model} {A : Around} {E : Value → Shared → Prop} {s : Shared} {env : Env}
theorem callK {pos : Pos} {T : String} {e : Expr} {rest : List Expr} {kws : List Keyword} {Q : Value → Shared → Prop}
    (h : wpAny M A (spliced (backTo pos (starEach (e :: rest) env))) (fun vs s1 => wpAny M A (evalAll ((backToKw pos (keywordEach kws env)).map (·.2))) (fun ws s2 => wpAny M A (call (.type T) vs (((backToKw pos (keywordEach kws env)).filterMap (·.1)).zip ws)) Q E s2) E s1) E s)
    (he : backTo pos (starEach (e :: rest) env) = (false, eval e env) :: backTo pos (starEach rest env)) (hp : (backTo pos (starEach (e :: rest) env)).any (·.1) = false)
    (ha : (backToKw pos (keywordEach kws env)).all (·.1.isSome) = true) (hn : (backToKw pos (keywordEach kws env)).any (·.1.isNone) = false) :
    wpAny M A (callWith pos (.type T) [] (backTo pos (starEach (e :: rest) env)) (backToKw pos (keywordEach kws env))) Q E s := by
  have h' : wpAny M A (evalArgs (.type T) true (backTo pos (starEach (e :: rest) env)) (backToKw pos (keywordEach kws env))) (fun a s1 => wpAny M A (call (.type T) ([] ++ a.pos) a.kw) Q E s1) E s := by
    rw [he] at h ⊢
    exact evalArgs_kwB ha h
  unfold callWith
  refine wpAny_bind (wpAny_holding (wpAny_mono h' (fun a s1 q => wpAny_bind (wpAny_standAt ?_)) fun _ _ q => q))
  simp only [hp, hn, Bool.or_false]
  exact wpAny_bind (wpAny_pure (wpAny_bind (wpAny_mono q (fun r s2 k => wpAny_bind (wpAny_holding (wpAny_point (wpAny_pure k)))) fun _ _ q => q)))
end
def iZs (K : PySem.W.Frag) (ta : TA) : TI := fun σ H R => ta σ H fun vs H1 => ∃ a b xs ys, vs = [.ref a, .ref b] ∧ SqL K H1 a xs ∧ SqL K H1 b ys ∧ R (ItS K a b) H1
theorem pi_zs {X : Cx} {e e2 : Expr} {ta : TA} {p p2 kp pos tpos : Pos} {j : Nat} {elts : List Expr} {kk : Nat} (hg : Gl X "zip") (hm : X.mg "zip" = none) (ha : PA X [e, e2] ta)
    (he : backTo pos (starEach [e, e2] X.env) = (false, eval e X.env) :: backTo pos (starEach [e2] X.env) := by rfl) (hp : (backTo pos (starEach [e, e2] X.env)).any (·.1) = false := by rfl)
    (hall : (backToKw pos (keywordEach [⟨some "strict", .Constant (.bool true) j p2, kp⟩] X.env)).all (·.1.isSome) = true := by rfl) (hnone : (backToKw pos (keywordEach [⟨some "strict", .Constant (.bool true) j p2, kp⟩] X.env)).any (·.1.isNone) = false := by rfl)
    (hks : (backToKw pos (keywordEach [⟨some "strict", .Constant (.bool true) j p2, kp⟩] X.env)).filterMap (·.1) = [Str.ofString "strict"] := by rfl) :
    PI X (.Tuple elts kk tpos) (.Call (.Name "zip" p) [e, e2] [⟨some "strict", .Constant (.bool true) j p2, kp⟩] pos) (iZs X.K ta) := by
  refine ⟨fun pins s σ H R I h => ?_⟩
  refine wpAny_Call_Name_kw (ld_blt I hg hm PyProof.Rows.boot_zip ?_ (by decide) (by decide))
  have kw : PK X [⟨some "strict", .Constant (.bool true) j p2, kp⟩] (tCons (tC (.bl true)) tNil) := pk_cons pe_bl pk_nil
  refine callK (thn (ha.run pos pins s σ H _ I h) fun us s1 ⟨vs, H1, I1, r1, a, b, xs, ys, ev, q1, q2, q⟩ => thn (kw.run pos pins s1 σ H1 (fun zs H2 => zs = [.bl true] ∧ H2 = H1) I1 ⟨rfl, rfl⟩) fun ws s2 ⟨zs, H2, I2, r2, ez, eH⟩ => ?_) he hp hall hnone
  subst ev ez eH
  rw [hks]
  cases r1 with
  | cons ra rr => cases rr with
    | cons rb rr =>
      cases rr; cases ra; cases rb
      cases r2 with
      | cons rw' rr =>
        cases rr
        obtain rfl : _ = Value.bool true := rw'
        obtain ⟨vx, w1, p1, _⟩ := I2.list q1
        obtain ⟨vy, w2, p2, _⟩ := I2.list q2
        refine call_zs p1.isList p2.isList fun h' t hk => iterS t.z ?_
        refine ⟨_, _, _, _, H2, rfl, I2.kept (t' := s2.toks) hk, turnS (PySem.W.ktu_apart s2.heap.objs.size a b p1.lt p2.lt), t, fun c hc => ?_, q⟩
        have hle : s2.heap.objs.size ≤ c := by rcases five hc with rfl | rfl | rfl | rfl | rfl <;> omega
        exact I2.fpOk hle (I2.hok.fresh hle)
end ZipS
end

section
set_option maxRecDepth 100000
set_option maxHeartbeats 1000000
namespace Ly
open PySem PySem.Spec L2
open PyProof.Rows hiding St
section
variable [Tb]
def zipD (xs ys : List D) : List D := xs.zipWith (fun a b => .t [a, b]) ys
def zsD : List D → Re (List D)
  | [a, b] => (match a.seq?, b.seq? with | some xs, some ys => if xs.length = ys.length then .ok (zipD xs ys) else .bad | _, _ => .bad)
  | _ => .bad
def itZs (fa : FA) : FI := fun Γ => (fa Γ).bind zsD
theorem zipD_get {xs ys : List D} {i : Nat} {d : D} (h : (zipD xs ys)[i]? = some d) : ∃ a b, xs[i]? = some a ∧ ys[i]? = some b ∧ d = .t [a, b] := by
  unfold zipD at h
  rw [List.getElem?_zipWith] at h
  cases e1 : xs[i]? with
  | none => rw [e1] at h; simp at h
  | some a =>
    cases e2 : ys[i]? with
    | none => rw [e1, e2] at h; simp at h
    | some b => rw [e1, e2] at h; exact ⟨a, b, rfl, rfl, (Option.some.inj h).symm⟩
theorem walk_zs {K : PySem.W.Frag} {G : Hp} {a b : Addr} {xs ys : List V} {ds es : List D} (h1 : SqL K G a xs) (h2 : SqL K G b ys) (r1 : Reps K G xs ds) (r2 : Reps K G ys es) (hl : ds.length = es.length) : WalkOk K G (ZipS.ItS K a b) (zipD ds es) := by
  refine ⟨fun G1 H1 s1 s2 i d hi => ?_, fun H1 s1 i hi => ⟨xs, ys, s1.seq h1, s1.seq h2, ?_, ?_⟩⟩
  · obtain ⟨x, y, e1, e2, rfl⟩ := zipD_get hi
    obtain ⟨v, hv, rv⟩ := r1.get' e1
    obtain ⟨w, hw, rw'⟩ := r2.get' e2
    have q1 := s2.seq (s1.seq h1)
    have q2 := s2.seq (s1.seq h2)
    refine ⟨⟨xs, ys, v, w, q1, q2, hv, hw⟩, ?_⟩
    rintro z H2 ⟨T, v', w', rfl, hT, rfl, k1, k2⟩
    have e3 := k1 xs q1
    have e4 := k2 ys q2
    rw [hv] at e3
    rw [hw] at e4
    cases e3
    cases e4
    have g := Gr.new (o := .tup [v, w]) s2 hT
    exact ⟨_, g, .t upd_same (.cons ((rv.mono s1).mono g.gg) (.cons ((rw'.mono s1).mono g.gg) .nil))⟩
  · have : (zipD ds es).length = ds.length := by unfold zipD; rw [List.length_zipWith]; omega
    rw [r1.length]; omega
  · have : (zipD ds es).length = ds.length := by unfold zipD; rw [List.length_zipWith]; omega
    rw [r2.length]; omega
section
variable {X : Cx} {c : LC} {a b e tg : Expr} {fa : FA} {pos : Pos}
theorem seq_of {G H : Hp} {v : V} {d : D} {ds : List D} (gh : Same G H) (r : Rep c.K G v d) (e : d.seq? = some ds) : ∃ p xs, v = .ref p ∧ SqL c.K G p xs ∧ Reps c.K G xs ds := by
  cases d with
  | l es => cases e; obtain ⟨p, xs, rfl, h1, h2⟩ := r.l_inv; exact ⟨p, xs, rfl, .of h1, h2⟩
  | z es => cases e; obtain ⟨p, xs, rfl, h1, h2⟩ := r.z_inv; exact ⟨p, xs, rfl, h1, h2⟩
  | _ => cases e
theorem ri_zs (cy : Cy X c) {p p2 kp tpos : Pos} {j : Nat} {elts : List Expr} {kk : Nat} (hg : Gl X "zip") (hm : X.mg "zip" = none) (ha : PA X [a, b] (tA c fa))
    (he : backTo pos (starEach [a, b] X.env) = (false, eval a X.env) :: backTo pos (starEach [b] X.env) := by rfl) (hp : (backTo pos (starEach [a, b] X.env)).any (·.1) = false := by rfl)
    (hall : (backToKw pos (keywordEach [⟨some "strict", .Constant (.bool true) j p2, kp⟩] X.env)).all (·.1.isSome) = true := by rfl) (hnone : (backToKw pos (keywordEach [⟨some "strict", .Constant (.bool true) j p2, kp⟩] X.env)).any (·.1.isNone) = false := by rfl)
    (hks : (backToKw pos (keywordEach [⟨some "strict", .Constant (.bool true) j p2, kp⟩] X.env)).filterMap (·.1) = [Str.ofString "strict"] := by rfl) :
    PI X (.Tuple elts kk tpos) (.Call (.Name "zip" p) [a, b] [⟨some "strict", .Constant (.bool true) j p2, kp⟩] pos) (tI c (itZs fa)) := by
  refine PI.weak (ZipS.pi_zs hg hm ha he hp hall hnone hks) ?_
  rintro σ H R ⟨G, Γ, hen, q⟩
  refine tA_bind (P := fun r G H => PostI c r σ G H R) hen (fun _ _ h => h) (fun _ _ _ h => h) (fun _ _ _ _ _ g h => h.later g) q fun ds vs G1 H1 _ g1 rs he1 q1 => ?_
  match ds, rs, q1 with
  | [d1, d2], .cons (v := v1) r1 (.cons (v := v2) r2 .nil), q1 =>
    unfold zsD at q1
    dsimp only at q1
    cases e1 : d1.seq? with
    | none => rw [e1] at q1; exact q1.elim
    | some xs =>
      cases e2 : d2.seq? with
      | none => rw [e1, e2] at q1; exact q1.elim
      | some ys =>
        rw [e1, e2] at q1
        dsimp only at q1
        split at q1
        · rename_i hl
          obtain ⟨p1, us, rfl, h1, k1⟩ := seq_of he1.gh r1 e1
          obtain ⟨p2, ws, rfl, h2, k2⟩ := seq_of he1.gh r2 e2
          rw [cy.K]
          exact ⟨p1, p2, us, ws, rfl, he1.gh.seq h1, he1.gh.seq h2, q1 _ _ _ (.refl he1.gh) (walk_zs h1 h2 k1 k2 hl)⟩
        · exact q1.elim
end
end
section
variable {m : Nat} {L : Lk} {k k1 k2 : Kd} {α β : Type} {ea : α → D} {eb : β → D} {f g : FE}
def zipT (xs : List α) (ys : List β) : Re (List (α × β)) := if xs.length = ys.length then .ok (xs.zip ys) else .bad
theorem zipT_ok {xs : List α} {ys : List β} (h : xs.length = ys.length) : zipT xs ys = .ok (xs.zip ys) := if_pos h
theorem ir_zs {x : Re (List α)} {y : Re (List β)} (hk1 : k1.ok = true) (hx : ER m L k1 (eL ea) x f) (hk2 : k2.ok = true) (hy : ER m L k2 (eL eb) y g) : IR m L (eP2 ea eb) (x.bind fun xs => y.bind fun ys => zipT xs ys) (itZs (aCons f (aCons g aNil))) := fun Γ hΓ => by
  have h1 := hx Γ hΓ
  have h2 := hy Γ hΓ
  unfold itZs
  rw [aCons_at]
  cases x with
  | ok xs =>
    have h1 : f Γ = .ok _ := h1
    simp only [h1, Re.bind_ok, Kd.share hk1, aCons_at]
    cases y with
    | ok ys =>
      have h2 : g Γ = .ok _ := h2
      simp only [h2, Re.bind_ok, Kd.share hk2]
      show RI1 (eP2 ea eb) (zipT xs ys) (zsD [.l (xs.map ea), .l (ys.map eb)])
      unfold zipT zsD
      show RI1 _ _ (if (xs.map ea).length = (ys.map eb).length then _ else _)
      by_cases h : xs.length = ys.length
      · rw [if_pos h, if_pos (by simpa using h)]
        show Re.ok (zipD (xs.map ea) (ys.map eb)) = Re.ok ((xs.zip ys).map (eP2 ea eb))
        unfold zipD
        rw [List.zipWith_map, List.zip, List.map_zipWith]
      · rw [if_neg h]; trivial
    | ex z => have h2 : g Γ = .ex z := h2; simp only [h2]; rfl
    | bad => trivial
  | ex z => have h1 : f Γ = .ex z := h1; rw [h1]; rfl
  | bad => trivial
end
end Ly
end

section
set_option maxRecDepth 100000
set_option maxHeartbeats 1000000
namespace Ly
open PySem PySem.Spec L2
open PyProof.Rows hiding St
mutual
def D.nd : D → List (List D)
  | .l xs => xs :: D.nds xs | .z xs => xs :: D.nds xs | .t xs => D.nds xs | .zt xs => D.nds xs | .dk _ xs => D.nds xs | .dt _ xs => D.nds xs | _ => []
def D.nds : List D → List (List D)
  | [] => []
  | x :: xs => D.nd x ++ D.nds xs
end
open Classical in
noncomputable def res (G : Hp) (S : Addr → Prop) : Hp := fun a => if S a then G a else none
theorem res_in {G : Hp} {S : Addr → Prop} {a : Addr} (h : S a) : res G S a = G a := by unfold res; exact if_pos h
theorem res_some {G : Hp} {S : Addr → Prop} {a : Addr} {o : HO} (h : res G S a = some o) : S a ∧ G a = some o := by
  unfold res at h
  by_cases e : S a
  · rw [if_pos e] at h; exact ⟨e, h⟩
  · rw [if_neg e] at h; cases h
theorem res_mono {G : Hp} {S T : Addr → Prop} (h : ∀ a, S a → T a) : Same (res G S) (res G T) := fun a o e => by
  obtain ⟨h1, h2⟩ := res_some e
  rw [res_in (h a h1)]; exact h2
theorem res_sub {G : Hp} {S : Addr → Prop} : Same (res G S) G := fun a o e => (res_some e).2
def Nd (K : PySem.W.Frag) (G : Hp) (S : Addr → Prop) (N : List (List D)) : Prop := ∀ a, S a → ∀ xs, G a = some (.lst xs) → ∃ es ∈ N, Reps K G xs es
theorem Nd.add {K : PySem.W.Frag} {G : Hp} {S : Addr → Prop} {N : List (List D)} {p : Addr} {o : HO} (h : Nd K G S N) (e : G p = some o) (n : ∀ xs, o ≠ .lst xs) : Nd K G (fun a => S a ∨ a = p) N := fun a ha xs hx => by
  rcases ha with ha | rfl
  · exact h a ha xs hx
  · rw [e] at hx; exact absurd (Option.some.inj hx) (n xs)
mutual
theorem Rep.part {K : PySem.W.Frag} {G : Hp} : ∀ {v : V} {d : D}, Rep K G v d → ∃ S, Rep K (res G S) v d ∧ Nd K G S (D.nd d)
  | _, _, .n => ⟨fun _ => False, .n, fun _ h => h.elim⟩
  | _, _, .b x => ⟨fun _ => False, .b x, fun _ h => h.elim⟩
  | _, _, .i x => ⟨fun _ => False, .i x, fun _ h => h.elim⟩
  | _, _, .s x => ⟨fun _ => False, .s x, fun _ h => h.elim⟩
  | _, _, .o a => ⟨fun _ => False, .o a, fun _ h => h.elim⟩
  | _, _, .l (a := p) (xs := ws) (ds := ds) h r => by
    obtain ⟨S, r1, n1⟩ := Reps.part r
    refine ⟨fun a => S a ∨ a = p, .l (by rw [res_in (.inr rfl)]; exact h) (r1.mono (res_mono fun a ha => .inl ha)), fun a ha xs hx => ?_⟩
    rw [D.nd]
    rcases ha with ha | rfl
    · obtain ⟨es, h1, h2⟩ := n1 a ha xs hx; exact ⟨es, List.mem_cons_of_mem _ h1, h2⟩
    · rw [h] at hx; cases hx; exact ⟨ds, List.mem_cons_self, r⟩
  | _, _, .z (a := p) (xs := ws) (ds := ds) h r => by
    obtain ⟨S, r1, n1⟩ := Reps.part r
    have old : ∀ a xs, S a → G a = some (.lst xs) → ∃ es ∈ ds :: D.nds ds, Reps K G xs es := fun a xs ha hx => by
      obtain ⟨es, h1, h2⟩ := n1 a ha xs hx; exact ⟨es, List.mem_cons_of_mem _ h1, h2⟩
    rcases h with (h | ⟨o, h⟩) | h
    · refine ⟨fun a => S a ∨ a = p, .z (.inl (.inl (by rw [res_in (.inr rfl)]; exact h))) (r1.mono (res_mono fun a ha => .inl ha)), fun a ha xs hx => ?_⟩
      rw [D.nd]
      rcases ha with ha | rfl
      · exact old a xs ha hx
      · rw [h] at hx; cases hx; exact ⟨ds, List.mem_cons_self, r⟩
    · refine ⟨fun a => S a ∨ a = p, .z (.inl (.inr ⟨o, by rw [res_in (.inr rfl)]; exact h⟩)) (r1.mono (res_mono fun a ha => .inl ha)), fun a ha xs hx => ?_⟩
      rw [D.nd]
      rcases ha with ha | rfl
      · exact old a xs ha hx
      · rw [h] at hx; cases hx
    · exact ⟨S, .z (.inr h) r1, fun a ha xs hx => by rw [D.nd]; exact old a xs ha hx⟩
  | _, _, .t (a := p) h r => by
    obtain ⟨S, r1, n1⟩ := Reps.part r
    exact ⟨fun a => S a ∨ a = p, .t (by rw [res_in (.inr rfl)]; exact h) (r1.mono (res_mono fun a ha => .inl ha)), by rw [D.nd]; exact n1.add h fun xs z => by cases z⟩
  | _, _, .zt (a := p) h r => by
    obtain ⟨S, r1, n1⟩ := Reps.part r
    rcases h with (h | ⟨o, h⟩) | h
    · exact ⟨fun a => S a ∨ a = p, .zt (.inl (.inl (by rw [res_in (.inr rfl)]; exact h))) (r1.mono (res_mono fun a ha => .inl ha)), by rw [D.nd]; exact n1.add h fun xs z => by cases z⟩
    · exact ⟨fun a => S a ∨ a = p, .zt (.inl (.inr ⟨o, by rw [res_in (.inr rfl)]; exact h⟩)) (r1.mono (res_mono fun a ha => .inl ha)), by rw [D.nd]; exact n1.add h fun xs z => by cases z⟩
    · exact ⟨S, .zt (.inr h) r1, by rw [D.nd]; exact n1⟩
  | _, _, .dk (a := p) h q r => by
    obtain ⟨S, r1, n1⟩ := Reps.part r
    rcases h with h | ⟨o, h⟩
    · exact ⟨fun a => S a ∨ a = p, .dk (.inl (by rw [res_in (.inr rfl)]; exact h)) q (r1.mono (res_mono fun a ha => .inl ha)), by rw [D.nd]; exact n1.add h fun xs z => by cases z⟩
    · exact ⟨fun a => S a ∨ a = p, .dk (.inr ⟨o, by rw [res_in (.inr rfl)]; exact h⟩) q (r1.mono (res_mono fun a ha => .inl ha)), by rw [D.nd]; exact n1.add h fun xs z => by cases z⟩
  | _, _, .dt (a := p) h q r => by
    obtain ⟨S, r1, n1⟩ := Reps.part r
    rcases h with h | ⟨o, h⟩
    · exact ⟨fun a => S a ∨ a = p, .dt (.inl (by rw [res_in (.inr rfl)]; exact h)) q (r1.mono (res_mono fun a ha => .inl ha)), by rw [D.nd]; exact n1.add h fun xs z => by cases z⟩
    · exact ⟨fun a => S a ∨ a = p, .dt (.inr ⟨o, by rw [res_in (.inr rfl)]; exact h⟩) q (r1.mono (res_mono fun a ha => .inl ha)), by rw [D.nd]; exact n1.add h fun xs z => by cases z⟩
theorem Reps.part {K : PySem.W.Frag} {G : Hp} : ∀ {vs : List V} {ds : List D}, Reps K G vs ds → ∃ S, Reps K (res G S) vs ds ∧ Nd K G S (D.nds ds)
  | _, _, .nil => ⟨fun _ => False, .nil, fun _ h => h.elim⟩
  | _, _, .cons h r => by
    obtain ⟨S, r1, n1⟩ := Rep.part h
    obtain ⟨T, r2, n2⟩ := Reps.part r
    refine ⟨fun a => S a ∨ T a, .cons (r1.mono (res_mono fun a ha => .inl ha)) (r2.mono (res_mono fun a ha => .inr ha)), fun a ha xs hx => ?_⟩
    rw [D.nds]
    rcases ha with ha | ha
    · obtain ⟨es, h1, h2⟩ := n1 a ha xs hx; exact ⟨es, List.mem_append.mpr (.inl h1), h2⟩
    · obtain ⟨es, h1, h2⟩ := n2 a ha xs hx; exact ⟨es, List.mem_append.mpr (.inr h1), h2⟩
end
end Ly
end

section
set_option maxRecDepth 100000
set_option maxHeartbeats 1000000
namespace Ly
open PySem PySem.Spec L2
open PyProof.Rows hiding St
section
variable [Tb]
def newOk (N : List (List D)) : List D → Bool
  | [] => true
  | .l es :: r => (match D.ints es with | some zs => N.all fun fs => decide (D.ints fs ≠ some zs) | none => false) && newOk N r
  | _ :: _ => false
theorem newOk_at : ∀ {N : List (List D)} {rs : List D}, newOk N rs = true → ∀ d ∈ rs, ∃ zs : List Int, d = .l (zs.map .i) ∧ ∀ fs ∈ N, D.ints fs ≠ some zs
  | N, [], _, d, hd => by cases hd
  | N, .l es :: r, h, d, hd => by
    unfold newOk at h
    rw [Bool.and_eq_true] at h
    rcases List.mem_cons.mp hd with rfl | hd
    · cases e : D.ints es with
      | none => rw [e] at h; cases h.1
      | some zs =>
        rw [e] at h
        refine ⟨zs, by rw [D.ints_eq e], fun fs hf => ?_⟩
        have := List.all_eq_true.mp h.1 fs hf
        simpa using this
    · exact newOk_at h.2 d hd
  | N, .n :: r, h, d, hd => by cases h
  | N, .b _ :: r, h, d, hd => by cases h
  | N, .i _ :: r, h, d, hd => by cases h
  | N, .s _ :: r, h, d, hd => by cases h
  | N, .o _ :: r, h, d, hd => by cases h
  | N, .t _ :: r, h, d, hd => by cases h
  | N, .z _ :: r, h, d, hd => by cases h
  | N, .zt _ :: r, h, d, hd => by cases h
  | N, .dk _ _ :: r, h, d, hd => by cases h
  | N, .dt _ _ :: r, h, d, hd => by cases h
theorem ints_of {K : PySem.W.Frag} {G : Hp} : ∀ {zs : List Int} {es : List D}, Reps K G (zs.map V.int) es → D.ints es = some zs
  | [], _, .nil => rfl
  | z :: zs, _, .cons h r => by
    cases h
    rw [D.ints, ints_of r]
    rfl
def eCallN (n : Nat) (F : List D → Re Rv) (fa : FA) : FE := fun Γ => (fa Γ).bind fun ds => if ds.length = n then (match F ds with
  | .ok (.fr (.l rs)) => if newOk (D.nds ds) rs = true then .ok (.fr (.l rs)) else .bad | .ex e => .ex e | _ => .bad) else .bad
def PostN (c : LC) (re : Re Rv) (σ : St) (G H : Hp) (Q : VK) : Prop := match re with
  | .ok (.fr (.l rs)) => ∀ p G' H' xs, Gr G H G' H' → Non H p → G' p = none → H' p = some (.lst xs) → Reps c.K G' xs rs →
      (∀ x ∈ xs, ∃ (q : Addr) (ys : List V) (es : List D), x = .ref q ∧ Non H q ∧ G' q = some (.lst ys) ∧ ys.length = es.length ∧ D.l es ∈ rs) → Q (.ref p) H'
  | .ex e => ∀ G' H', Gr G H G' H' → ExAt c (fun C d H' => c.W C d σ H') e G' H'
  | _ => False
def tEn (c : LC) (f : FE) : TE := fun σ H Q => ∃ G Γ, EnvOk c G H σ Γ ∧ PostN c (f Γ) σ G H Q
theorem reps_mem {K : PySem.W.Frag} {G : Hp} : ∀ {xs : List V} {ds : List D}, Reps K G xs ds → ∀ x ∈ xs, ∃ d ∈ ds, Rep K G x d
  | _, _, .nil, x, hx => by cases hx
  | _, _, .cons h r, x, hx => by
    rcases List.mem_cons.mp hx with rfl | hx
    · exact ⟨_, List.mem_cons_self, h⟩
    · obtain ⟨d, h1, h2⟩ := reps_mem r x hx; exact ⟨d, List.mem_cons_of_mem _ h1, h2⟩
def uni (G G' : Hp) : Hp := fun a => match G a with | some o => some o | none => G' a
theorem uni_l {G G' : Hp} : Same G (uni G G') := fun a o e => by unfold uni; rw [e]
theorem uni_some {G G' : Hp} {a : Addr} {o : HO} (h : uni G G' a = some o) : G a = some o ∨ (G a = none ∧ G' a = some o) := by
  unfold uni at h
  cases e : G a with
  | some u => rw [e] at h; exact .inl h
  | none => rw [e] at h; exact .inr ⟨rfl, h⟩
theorem uni_r {G G' H : Hp} (h : Same G H) (h' : Same G' H) : Same G' (uni G G') := fun a o e => by
  unfold uni
  cases q : G a with
  | none => exact e
  | some u => have := h a u q; rw [h' a o e] at this; exact this.symm ▸ rfl
section
variable {X : Cx} {c : LC} {a b e : Expr} {es : List Expr} {f g h : FE} {fa : FA} {pos : Pos}
theorem re_callN (cy : Cy X c) {x : Str} {p : Pos} {k n : Nat} {F : List D → Re Rv} (h : DefOk X.prog X.w X.K X.mg X.base k x n F) (hr : Room k X.A) (hg : Gl X x) (ha : PA X (e :: es) (tA c fa))
    (hdb : (x == ("__debug__" : Str)) = false := by decide) (he : starEach (e :: es) X.env = (false, eval e X.env) :: starEach es X.env := by rfl) (hpl : (backTo pos (starEach es X.env)).any (·.1) = false := by rfl) :
    PE X (.Call (.Name x p) (e :: es) [] pos) (tEn c (eCallN n F fa)) := by
  obtain ⟨f, fd, ps, h1, h2, h3, h4⟩ := h.ex
  refine PE.weak (pe_callS (E := WE c.W) h4 hr hg h1 h2 h3 (fun σ => L2N.passAt cy.tk σ) ha hdb he hpl) ?_
  rintro σ H Q ⟨G, Γ, hen, q⟩
  unfold eCallN at q
  refine ⟨G, Γ, hen, ?_⟩
  cases eA : fa Γ with
  | bad => rw [eA] at q; exact q
  | ex x => rw [eA] at q; exact q
  | ok ds =>
    rw [eA] at q
    simp only [Re.bind_ok] at q
    intro vs G1 H1 g1 rs
    split at q
    · rename_i hn
      obtain ⟨S, r1, nS⟩ := rs.part
      have ok1 : Ok0 (res G1 S) H1 := ⟨res_sub.trans g1.gh, fun a ps z => g1.gt hen.gt a ps (res_some z).2, g1.tb hen.tb⟩
      refine ⟨res G1 S, ds, hn, ok1, by rw [cy.K]; exact r1, ?_⟩
      cases eF : F ds with
      | bad => rw [eF] at q; exact q
      | ex x =>
        rw [eF] at q
        intro G' H' g' C d hC hd
        have gg : Gr G1 H1 (uni G1 G') H' := ⟨g'.hh, uni_l, fun a o z => by
            rcases uni_some z with z | ⟨_, z⟩
            · exact g'.hh a o (g1.gh a o z) (fun ps e => g1.gt hen.gt a ps (by rw [z, e]))
            · exact g'.gh a o z, fun a o z n => by
            rcases uni_some z with z | ⟨_, z⟩
            · exact z
            · exact (res_some (g'.nw a o z n)).2, fun nt a ps z => by
            rcases uni_some z with z | ⟨_, z⟩
            · exact nt a ps z
            · exact g'.gt ok1.gt a ps z, g'.tb⟩
        have sm : Same G' (uni G1 G') := uni_r (H := H') (fun a o z => g'.hh a o (g1.gh a o z) (fun ps e => g1.gt hen.gt a ps (by rw [z, e]))) g'.gh
        refine q _ H' (g1.trans gg) C d (by rw [← cy.mg]; exact hC) ?_
        cases ef : x.fs with
        | none => rw [ef] at hd; exact hd
        | some fs =>
          rw [ef] at hd
          obtain ⟨p', vs', k1, k2, k3, k4⟩ := hd
          exact ⟨p', vs', k1, k2, k3, by rw [← cy.K]; exact k4.mono sm⟩
      | ok r =>
        rw [eF] at q
        cases r with
        | sh d => exact q.elim
        | bo d => exact q.elim
        | fr d =>
          cases d with
          | l rs' =>
            dsimp only at q
            split at q
            · rename_i hnew
              intro p' G' H' g' hp gp o
              have kg : ∀ a o, G1 a = some o → H' a = some o := fun a o z => g'.hh a o (g1.gh a o z) (fun ps e => g1.gt hen.gt a ps (by rw [z, e]))
              have gg : Gr G1 H1 (uni G1 G') H' := ⟨g'.hh, uni_l, fun a o z => by
                  rcases uni_some z with z | ⟨_, z⟩
                  · exact kg a o z
                  · exact g'.gh a o z, fun a o z n => by
                  rcases uni_some z with z | ⟨_, z⟩
                  · exact z
                  · exact (res_some (g'.nw a o z n)).2, fun nt a ps z => by
                  rcases uni_some z with z | ⟨_, z⟩
                  · exact nt a ps z
                  · exact g'.gt ok1.gt a ps z, g'.tb⟩
              have sm : Same G' (uni G1 G') := uni_r (H := H') kg g'.gh
              cases o with
              | @l xs _ o1 o2 =>
                rw [cy.K] at o2
                have hp1 : uni G1 G' p' = none := by
                  cases z : uni G1 G' p' with
                  | none => rfl
                  | some u =>
                    rcases uni_some z with z | ⟨_, z⟩
                    · exact absurd hp (live_of (g1.gh p' u z) fun ps e => g1.gt hen.gt p' ps (by rw [z, e]))
                    · rw [gp] at z; cases z
                refine q p' (uni G1 G') H' xs (g1.trans gg) (Kept.non g1.hh hp) hp1 o1 (o2.mono sm) fun x hx => ?_
                obtain ⟨d, hd, rd⟩ := reps_mem o2 x hx
                obtain ⟨zs, rfl, hz⟩ := newOk_at hnew d hd
                obtain ⟨q', ys, rfl, k1, k2⟩ := rd.l_inv
                have ey := k2.ints
                subst ey
                refine ⟨q', zs.map .int, zs.map .i, rfl, ?_, sm _ _ k1, by simp, hd⟩
                by_cases nq : Non H1 q'
                · exact Kept.non g1.hh nq
                · obtain ⟨k3, k4⟩ := res_some (g'.nw _ _ k1 nq)
                  obtain ⟨fs, k5, k6⟩ := nS q' k3 _ k4
                  exact absurd (ints_of k6) (hz fs k5)
            · exact q.elim
          | _ => exact q.elim
    · exact q.elim
end
end
end Ly
end

section
set_option maxRecDepth 100000
set_option maxHeartbeats 1000000
namespace Ly
open PySem PySem.Spec L2
open PyProof.Rows hiding St
section
variable [Tb]
def clr (Γ : Env') : Env' := Γ.map fun o => match o with | some (.sh d) => some (.sh d) | _ => none
theorem clr_at {Γ : Env'} {i : Nat} {r : Rv} (h : (clr Γ)[i]? = some (some r)) : ∃ d, r = .sh d ∧ Γ[i]? = some (some (.sh d)) := by
  unfold clr at h
  rw [List.getElem?_map] at h
  cases e : Γ[i]? with
  | none => rw [e] at h; cases h
  | some o =>
    rw [e] at h
    match o, h with
    | some (.sh d), h => cases h; exact ⟨d, rfl, rfl⟩
    | some (.fr d), h => cases h
    | some (.bo d), h => cases h
    | none, h => cases h
def Spoils (j : Nat) (tb : TS) : Prop := ∀ (D : Ends) (σ : St) (H : Hp) (q : Addr) (ys : List V), σ[j]? = some (some (.ref q)) → H q = some (.lst ys) → ys.length < sizeLine →
  (∀ ys' H', ys'.length ≤ ys.length + 1 → (∀ b, ¬ Non H b → H' b = H b) → (LamX.Tabs Tb.T H → LamX.Tabs Tb.T H') → D.nx σ (upd H' q (.lst ys'))) → tb D σ H
def lens (rs : List D) : Bool := rs.all fun d => match d with | .l es => decide (es.length + rs.length < 16777216) | _ => false
theorem lens_at {rs : List D} (h : lens rs = true) {es : List D} (he : D.l es ∈ rs) : es.length + rs.length < 16777216 := by
  have := List.all_eq_true.mp h _ he
  simpa using this
def sSpoil (i j : Nat) (call : FE) (ft : FT) (fr : FE) (rest : FS) : FS := fun Γ => (call Γ).fl Γ fun r => match r with
  | .fr (.l rs) => (ft (Γ.set i (some r))).fl (Γ.set i (some r)) fun b => if b = true then sRet fr (Γ.set i (some r)) else
      if lens rs = true ∧ i < Γ.length ∧ j < Γ.length then rest (((clr Γ).set i none).set j none) else .bad
  | _ => .bad
variable {X : Cx} {c : LC}
structure Spo (H H2 H' : Hp) (qs : List Addr) (k : Nat) (L : Nat) : Prop where
  out : ∀ b, b ∉ qs → ¬ Non H2 b → H' b = H2 b
  ins : ∀ q ∈ qs, ∃ ys, H' q = some (.lst ys) ∧ ys.length ≤ L + k
  tb : LamX.Tabs Tb.T H'
theorem non_eq {H H' : Hp} {b : Addr} (e : H' b = H b) (n : ¬ Non H b) : ¬ Non H' b := fun z => n fun o h => z o (e.trans h)
theorem Spo.step {H H2 H' H'' : Hp} {qs : List Addr} {k L : Nat} (s : Spo H H2 H' qs k L) {q : Addr} (hq : q ∈ qs) {ys ys' : List V} (e : H' q = some (.lst ys)) (l : ys.length ≤ L + k) (l' : ys'.length ≤ ys.length + 1) (he : ∀ b, ¬ Non H' b → H'' b = H' b) (ht : LamX.Tabs Tb.T H' → LamX.Tabs Tb.T H'') : Spo H H2 (upd H'' q (.lst ys')) qs (k + 1) L := by
  refine ⟨fun b hb n => ?_, fun p hp => ?_, tabs_put (ht s.tb) ((he q (live_of e)).trans e) ⟨fun _ z => (by cases z), fun _ z => (by cases z)⟩⟩
  · have : b ≠ q := fun z => hb (z ▸ hq)
    have h1 := s.out b hb n
    rw [upd_ne this, he b (non_eq h1 n)]
    exact h1
  · by_cases z : p = q
    · subst z; exact ⟨ys', upd_same, by omega⟩
    · obtain ⟨zs, h1, h2⟩ := s.ins p hp
      exact ⟨zs, by rw [upd_ne z, he p (live_of h1)]; exact h1, by omega⟩
theorem two_none {Γ : Env'} {i j n : Nat} {r : Rv} (h : ((Γ.set i none).set j none)[n]? = some (some r)) : n ≠ i ∧ n ≠ j ∧ Γ[n]? = some (some r) := by
  by_cases h2 : n = j
  · subst h2
    by_cases hl : n < (Γ.set i none).length
    · rw [List.getElem?_set_self hl] at h; cases h
    · rw [List.getElem?_eq_none (by simpa using hl)] at h; cases h
  · rw [List.getElem?_set_ne (Ne.symm h2)] at h
    by_cases h1 : n = i
    · subst h1
      by_cases hl : n < Γ.length
      · rw [List.getElem?_set_self hl] at h; cases h
      · rw [List.getElem?_eq_none (by simpa using hl)] at h; cases h
    · rw [List.getElem?_set_ne (Ne.symm h1)] at h; exact ⟨h1, h2, h⟩
theorem ret_ends {c : LC} {f : FE} {Γ : Env'} {G : Hp} {D D' : Ends} (h : PostS c (sRet f Γ) G D) (e : D'.rt = D.rt := by rfl) : PostS c (sRet f Γ) G D' := by
  unfold sRet at h ⊢
  cases ef : f Γ with
  | bad => rw [ef] at h; exact h
  | ex x => rw [ef] at h; exact h
  | ok r =>
    rw [ef] at h
    cases r with
    | sh d => exact fun v G' H' a b c d => e ▸ h v G' H' a b c d
    | fr d => exact fun v G' H' a b c d => e ▸ h v G' H' a b c d
    | bo d => exact fun v G' H' a b c d => e ▸ h v G' H' a b c d
theorem sT0 {f : FT} {σ : St} {H G G0 : Hp} {Γ : Env'} {D : Ends} {k : Bool → Fl} {R : Bool → Hp → Prop} (he : EnvOk c G H σ Γ) (sm : Same G0 G) (h : PostS c ((f Γ).fl Γ k) G0 D)
    (hk : ∀ r G' H', Gr G H G' H' → EnvOk c G' H' σ Γ → PostS c (k r) G0 D → R r H') : tT c f σ H R := by
  refine ⟨G, Γ, he, ?_⟩
  cases e : f Γ with
  | bad => rw [e] at h; exact h
  | ex x => rw [e] at h; exact fun G' H' g => h σ G' H' (he.mono g) (sm.trans g.gg)
  | ok r =>
    intro G' H' g
    rw [e] at h
    exact hk r G' H' g (he.mono g) h
theorem rs_spoil (hp : PassesOwn (model X.prog X.w) X.A X.env X.xe) (cy : Cy X c) {i j : Nat} {x y : Str} {px px2 py pos pos2 pos3 pos4 : Pos} {e te re : Expr} {body rest : List Stmt} {call : FE} {ft : FT} {fr : FE} {tb : TS} {w : FS}
    (hij : i ≠ j) (hi : X.N[i]? = some x) (hx : Loc X.env.scope x) (hvx : Vis X.env.scope x) (hj : X.N[j]? = some y) (hy : Loc X.env.scope y) (he : PE X e (tEn c call)) (ht : L2.PT X te (tT c ft)) (hr : PE X re (tE c fr)) (hb : PSs X body tb) (hsp : Spoils j tb) (hw : PSs X rest (tS c w))
    (hd : (x == ("__debug__" : Str)) = false := by decide) (hcd : (x == ("__classdict__" : Str)) = false := by decide)
    (hs : swapsWith e (some (.Name x px)) pos.line X.env = pure false := by rfl) (hf : X.fn x = true ∨ X.env.scope.names.lookup x = some .local := by first | exact .inl rfl | exact .inr rfl)
    (hfy : X.fn y = true ∨ X.env.scope.names.lookup y = some .local := by first | exact .inl rfl | exact .inr rfl)
    (hfs : ∀ z, foldedSetIterable (.Name x px2) X.env z = pure z := by intro _; rfl) :
    PSs X (.Assign [.Name x px] e pos :: .If te [.Return (some re) pos4] [] pos2 :: .For (.Name y py) (.Name x px2) body [] pos3 :: rest) (tS c (sSpoil i j call ft fr w)) := by
  refine PSs.weak (pss_cons (ps_set cy.nd hi hx he hs hf) (pss_cons (ps_if ht (pss_one (rs_ret hr)) pss_nil) (pss_cons (ps_for hp cy.calm (pi_list (pe_var hi hvx hd hcd)) (pg_name cy.nd hj hy hfy) hb hfs) hw))) ?_
  rintro D σ H ⟨G, Γ, en, q⟩
  unfold sSpoil at q
  refine ⟨G, Γ, en, ?_⟩
  cases eC : call Γ with
  | bad => rw [eC] at q; exact q
  | ex z => rw [eC] at q; exact fun G' H' g => q σ G' H' (en.mono g) g.gg
  | ok r =>
    rw [eC] at q
    match r, q with
    | .sh d, q => exact q.elim
    | .bo d, q => exact q.elim
    | .fr (.n), q => exact q.elim
    | .fr (.b _), q => exact q.elim
    | .fr (.i _), q => exact q.elim
    | .fr (.s _), q => exact q.elim
    | .fr (.o _), q => exact q.elim
    | .fr (.t _), q => exact q.elim
    | .fr (.z _), q => exact q.elim
    | .fr (.zt _), q => exact q.elim
    | .fr (.dk _ _), q => exact q.elim
    | .fr (.dt _ _), q => exact q.elim
    | .fr (.l rs), q =>
      intro p G1 H1 xs g1 np gp hp1 rp new
      have ow : Own c.K G1 H1 p (.l rs) := .l hp1 rp
      have he1 := (en.mono g1).setFr i (Kept.non en.bh np) gp ow (en.newTo np)
      show tIfS (tT c ft) _ _ _ (σ.set i (some (.ref p))) H1
      refine sT0 he1 g1.gg q fun b G2 H2 g2 he2 q2 => ?_
      cases b with
      | true =>
        rw [if_pos rfl] at q2 ⊢
        exact ⟨G2, _, he2, PostS.later (g1.gg.trans g2.gg) (ret_ends q2)⟩
      | false =>
        rw [if_neg Bool.false_ne_true] at q2 ⊢
        split at q2
        · rename_i hc
          obtain ⟨hlen, hil, hjl⟩ := hc
          rw [← en.len] at hil hjl
          have hp2 : H2 p = some (.lst xs) := g2.hh _ _ hp1 fun _ z => by cases z
          have rp2 := rp.mono g2.gg
          let qs : List Addr := xs.filterMap fun x => match x with | .ref q => some q | _ => none
          have qsm : ∀ q, q ∈ qs → ∃ (ys : List V) (es : List Ly.D), Non H q ∧ H2 q = some (.lst ys) ∧ ys.length = es.length ∧ Ly.D.l es ∈ rs := fun q hq => by
            obtain ⟨x, hx1, hx2⟩ := List.mem_filterMap.mp hq
            obtain ⟨q', ys, es, rfl, k1, k2, k3, k4⟩ := new x hx1
            cases hx2
            exact ⟨ys, es, k1, he2.gh _ _ (g2.gg _ _ k2), k3, k4⟩
          have qsx : ∀ x ∈ xs, ∃ q, x = .ref q ∧ q ∈ qs := fun x hx1 => by
            obtain ⟨q', ys, es, rfl, k1, k2, k3, k4⟩ := new x hx1
            exact ⟨q', rfl, List.mem_filterMap.mpr ⟨_, hx1, rfl⟩⟩
          have xl : xs.length = rs.length := rp.length
          have pq : p ∉ qs := fun h => by
            obtain ⟨x, hx1, hx2⟩ := List.mem_filterMap.mp h
            obtain ⟨q', ys, es, rfl, k1, k2, k3, k4⟩ := new x hx1
            cases hx2
            rw [gp] at k2
            cases k2
          refine ⟨_, List.getElem?_set_self hil, p, rfl, ⟨xs, .of hp2⟩, ?_⟩
          refine ⟨fun k m σ' H' => m = xs.length - k ∧ k ≤ xs.length ∧ σ'.length = σ.length ∧ (∀ n, n ≠ i → n ≠ j → σ'[n]? = σ[n]?) ∧ Spo H H2 H' qs k (16777215 - xs.length), ⟨xs.length, by simp, Nat.zero_le _, by simp, fun n h1 h2 => List.getElem?_set_ne (Ne.symm h1), fun _ _ _ => rfl, fun q hq => ?_, he2.tb⟩, ?_⟩
          · obtain ⟨ys, es, _, e1, e3, e2⟩ := qsm q hq
            have := lens_at hlen e2
            exact ⟨_, e1, by omega⟩
          rintro k m σ' H' ⟨rfl, hk, sl, sa, sp⟩
          have hp' : H' p = some (.lst xs) := by rw [sp.out p pq (live_of hp2)]; exact hp2
          by_cases hlt : k < xs.length
          · refine .inr ⟨⟨xs, xs[k], by rw [cy.K]; exact .of hp', List.getElem?_eq_getElem hlt⟩, fun σ2 H3 => σ2.length = σ.length ∧ (∀ n, n ≠ i → n ≠ j → σ2[n]? = σ[n]?) ∧ Spo H H2 H3 qs (k + 1) (16777215 - xs.length), fun σ2 H3 hN => ⟨xs.length - (k + 1), by omega, rfl, hlt, hN.1, hN.2.1, hN.2.2⟩, ?_⟩
            rintro v H3 ⟨rfl, hv⟩
            have ev := hv xs (by rw [cy.K]; exact .of hp')
            rw [List.getElem?_eq_getElem hlt] at ev
            cases ev
            obtain ⟨q', hq1, hq2⟩ := qsx _ (List.getElem_mem hlt)
            obtain ⟨ys, hy1, hy2⟩ := sp.ins q' hq2
            rw [hq1]
            have hj' : j < σ'.length := by rw [sl]; exact hjl
            have hrl : rs.length < 16777216 := by
              obtain ⟨_, _, _, _, _, e2⟩ := qsm q' hq2
              have := lens_at hlen e2
              omega
            refine hsp _ (σ'.set j (some (.ref q'))) H3 q' ys (List.getElem?_set_self hj') hy1 (by rw [sizeLine_eq]; omega) fun ys' H4 hl h4 t4 => ?_
            refine ⟨by simpa using sl, fun n h1 h2 => ?_, sp.step hq2 hy1 hy2 hl h4 t4⟩
            rw [List.getElem?_set_ne (Ne.symm h2)]
            exact sa n h1 h2
          · refine .inl ⟨⟨xs, by rw [cy.K]; exact .of hp', by omega⟩, ?_⟩
            have nq : ∀ b, ¬ Non H b → H' b = H2 b := fun b hb => sp.out b (fun h => by
              obtain ⟨_, _, k1, _, _, _⟩ := qsm b h
              exact hb k1) fun z => hb (Kept.non (g1.trans g2).hh z)
            have gh' : Same G H' := fun a o z => by
              have h0 := en.gh a o z
              have ht : ∀ ps, o ≠ .tbl ps := fun ps e => en.gt a ps (by rw [z, e])
              rw [nq a (live_of h0 ht)]
              exact g2.hh a o (g1.hh a o h0 ht) ht
            have bh' : Kept c.B H' := fun a o z ht => by
              have h0 := en.bh a o z ht
              rw [nq a (live_of h0 ht)]
              exact g2.hh a o (g1.hh a o h0 ht) ht
            refine ⟨G, ((clr Γ).set i none).set j none, ⟨bh', en.g0, gh', en.gf, en.gt, sp.tb, ?_, fun n r hn => ?_, fun n n' d d' a hn hn' => ?_⟩, ?_⟩
            · rw [sl, en.len]; simp [clr]
            · obtain ⟨n1, n2, hn⟩ := two_none hn
              obtain ⟨d, rfl, hd⟩ := clr_at hn
              obtain ⟨v, h1, h2, h3⟩ := en.at' n _ hd
              exact ⟨v, by rw [sa n n1 n2]; exact h1, h2, h3⟩
            · obtain ⟨_, _, hn⟩ := two_none hn
              obtain ⟨d, e, _⟩ := clr_at hn
              cases e
            · exact q2
        · exact q2.elim
theorem sp_app {j : Nat} {y : Str} {py apos cpos pos cp : Pos} {z : Int} {jj : Nat} (hN : X.N[j]? = some y) (hv : Vis X.env.scope y)
    (hd : (y == ("__debug__" : Str)) = false := by decide) (hcd : (y == ("__classdict__" : Str)) = false := by decide)
    (hsw : swapsWith (.Call (.Attribute (.Name y py) "append" apos) [.Constant (.int z) jj cp] [] cpos) none pos.line X.env = pure false := by rfl)
    (hbase : attributeBase (.Name y py) "append" X.env (eval (.Name y py) X.env) = eval (.Name y py) X.env := by rfl)
    (hfew : ((backTo cpos (starEach [.Constant (.int z) jj cp] X.env)).all (fun x => !x.1) && (backToKw cpos (keywordEach [] X.env)).all (fun x => x.1.isSome)
      && decide ([Expr.Constant (.int z) jj cp].length + ([] : List Keyword).length + (if ([] : List Keyword).isEmpty then 0 else 1) < 30)) = true := by rfl)
    (hline : (apos.endLine == cpos.line) = true := by rfl) (hs : starEach [.Constant (.int z) jj cp] X.env = [(false, eval (.Constant (.int z) jj cp) X.env)] := by rfl) :
    ∃ tb, PSs X [.Expr (.Call (.Attribute (.Name y py) "append" apos) [.Constant (.int z) jj cp] [] cpos) pos] tb ∧ Spoils j tb := by
  refine ⟨_, pss_one (ps_expr (pe_bm PySem.F.plainAttrs_list PySem.F.slot_list_append PySem.F.type_list_append mt_append (pe_var hN hv hd hcd) (pa_cons pe_int pa_nil hs) hbase hfew hline hs) hsw), ?_⟩
  intro D σ H q ys e1 e2 hl hq
  refine ⟨_, e1, .inl ⟨rfl, _, SqL.of e2⟩, ?_⟩
  exact ⟨q, ys, .int z, rfl, rfl, e2, hl, hq _ H (by simp) (fun _ _ => rfl) id⟩
theorem sp_clear {j : Nat} {y : Str} {py apos cpos pos : Pos} (hN : X.N[j]? = some y) (hv : Vis X.env.scope y)
    (hd : (y == ("__debug__" : Str)) = false := by decide) (hcd : (y == ("__classdict__" : Str)) = false := by decide)
    (hsw : swapsWith (.Call (.Attribute (.Name y py) "clear" apos) [] [] cpos) none pos.line X.env = pure false := by rfl)
    (hbase : attributeBase (.Name y py) "clear" X.env (eval (.Name y py) X.env) = eval (.Name y py) X.env := by rfl)
    (hline : (apos.endLine == cpos.line) = true := by rfl) :
    ∃ tb, PSs X [.Expr (.Call (.Attribute (.Name y py) "clear" apos) [] [] cpos) pos] tb ∧ Spoils j tb := by
  refine ⟨_, pss_one (ps_expr (pe_bm0 PySem.F.plainAttrs_list PySem.F.slot_list_clear PySem.F.type_list_clear mt_clear (pe_var hN hv hd hcd) hbase hline) hsw), ?_⟩
  intro D σ H q ys e1 e2 hl hq
  refine ⟨_, e1, .inl ⟨rfl, _, SqL.of e2⟩, ?_⟩
  exact ⟨q, ys, rfl, rfl, e2, hq _ H (by simp) (fun _ _ => rfl) id⟩
end
end Ly
end

section
set_option maxRecDepth 100000
set_option maxHeartbeats 1000000
namespace Ly
open PySem PySem.Spec L2
open PyProof.Rows hiding St
section
variable {m : Nat} {L : Lk} {k k1 k2 : Kd} {α β τ ω : Type} {f g fr : FE} {ft : FT} {fa : FA} {w : FS} {P : ω → Fl → Prop} {i j : Nat}
abbrev eLL : List (List Int) → D := eL (eL eI)
def spT (N : List (List D)) (x : Re (List (List Int))) : Re (List (List Int)) := x.bind fun rs => if newOk N (rs.map (eL eI)) = true then .ok rs else .bad
def lensT (rs : List (List Int)) : Bool := lens (rs.map (eL eI))
theorem newOk_is {N : List (List D)} : ∀ {rs : List (List Int)}, (∀ zs ∈ rs, ∀ fs ∈ N, D.ints fs ≠ some zs) → newOk N (rs.map (eL eI)) = true
  | [], _ => rfl
  | zs :: rs, h => by
    rw [List.map_cons]
    show ((match D.ints (zs.map eI) with | some ws => N.all fun fs => decide (D.ints fs ≠ some ws) | none => false) && newOk N (rs.map (eL eI))) = true
    have e : D.ints (zs.map eI) = some zs := D.ints_map zs
    rw [e]
    have h1 : (N.all fun fs => decide (D.ints fs ≠ some zs)) = true := List.all_eq_true.mpr fun fs hf => decide_eq_true (h zs List.mem_cons_self fs hf)
    show ((N.all fun fs => decide (D.ints fs ≠ some zs)) && newOk N (rs.map (eL eI))) = true
    rw [h1, newOk_is fun ws hw => h ws (List.mem_cons_of_mem _ hw)]
    rfl
theorem spT_ok {N : List (List D)} {rs : List (List Int)} (h : ∀ zs ∈ rs, ∀ fs ∈ N, D.ints fs ≠ some zs) : spT N (.ok rs) = .ok rs := by
  show (if newOk N (rs.map (eL eI)) = true then Re.ok rs else Re.bad) = _
  rw [if_pos (newOk_is h)]
theorem lensT_ok {rs : List (List Int)} (h : ∀ zs ∈ rs, zs.length + rs.length < 16777216) : lensT rs = true := by
  unfold lensT lens
  rw [List.all_eq_true]
  intro d hd
  obtain ⟨zs, hz, rfl⟩ := List.mem_map.mp hd
  simpa using h zs hz
def CN (m : Nat) (L : Lk) (x : Re (List (List Int))) (call : FE) : Prop := ER m L .fr eLL x call
theorem cn_call {n : Nat} {F : List D → Re Rv} {ds : List D} {x : Re (List (List Int))} (ha : AR m L ds fa) (hn : ds.length = n) (hF : RE1 .fr eLL x (F ds)) : ER m L .fr eLL (spT (D.nds ds) x) (eCallN n F fa) := fun Γ hΓ => by
  unfold eCallN
  rw [ha Γ hΓ, Re.bind_ok, if_pos hn]
  cases x with
  | ok rs =>
    have hF : F ds = .ok (.fr (.l (rs.map (eL eI)))) := hF
    rw [hF]
    show RE1 .fr eLL (if newOk (D.nds ds) (rs.map (eL eI)) = true then Re.ok rs else Re.bad) _
    by_cases h : newOk (D.nds ds) (rs.map (eL eI)) = true
    · rw [if_pos h]; dsimp only; rw [if_pos h]; rfl
    · rw [if_neg h]; trivial
  | ex z => have hF : F ds = .ex z := hF; rw [hF]; rfl
  | bad => trivial
def SpL (i j : Nat) (L L' : Lk) : Prop := ∀ k r, lk k L' = some r → k ≠ i ∧ k ≠ j ∧ (∃ d, r = .sh d) ∧ lk k L = some r
theorem sp_n : SpL i j L [] := fun k r h => by cases h
theorem sp_c {k : Nat} {d : D} {L' : Lk} (h : lk k L = some (.sh d)) (hi : k ≠ i) (hj : k ≠ j) (h' : SpL i j L L') : SpL i j L ((k, .sh d) :: L') := fun n r hn => by
  rw [lk_cons] at hn
  by_cases e : n = k
  · subst e; rw [if_pos rfl] at hn; cases hn; exact ⟨hi, hj, ⟨d, rfl⟩, h⟩
  · rw [if_neg e] at hn; exact h' n r hn
theorem bg_spoil {x : Re (List (List Int))} {t : List (List Int) → Re Bool} {K : List (List Int) → Re ω} {L' : Lk} {call : FE} (hi : i < m) (hj : j < m) (hs : SpL i j L L') (hc : ER m L .fr eLL x call) (ht : ∀ rs, TR m ((i, .fr (eLL rs)) :: L) (t rs) ft) (hw : ∀ rs, BG m L' P (K rs) w) :
    BG m L P (x.bind fun rs => (t rs).bind fun b => if b = true then Re.bad else if lensT rs = true then K rs else Re.bad) (sSpoil i j call ft fr w) := fun Γ hΓ => by
  have h1 := hc Γ hΓ
  unfold sSpoil
  cases x with
  | ex z => have h1 : call Γ = .ex z := h1; rw [h1]; exact ⟨Γ, rfl⟩
  | bad => trivial
  | ok rs =>
    have h1 : call Γ = .ok (.fr (.l (rs.map (eL eI)))) := h1
    have h2 := ht rs _ (hΓ.set hi (.fr (eLL rs)))
    rw [h1]
    show RS P ((t rs).bind fun b => if b = true then Re.bad else if lensT rs = true then K rs else Re.bad) ((ft (Γ.set i (some (.fr (eLL rs))))).fl _ _)
    cases et : t rs with
    | ex z =>
      rw [et] at h2
      have h2 : ft _ = .ex z := h2
      rw [h2]; exact ⟨_, rfl⟩
    | bad => trivial
    | ok b =>
      rw [et] at h2
      have h2 : ft _ = .ok b := h2
      rw [h2]
      cases b with
      | true => trivial
      | false =>
        show RS P (if lensT rs = true then K rs else Re.bad) (if lens (rs.map (eL eI)) = true ∧ i < Γ.length ∧ j < Γ.length then w _ else Fl.bad)
        by_cases hl : lensT rs = true
        · rw [if_pos hl, if_pos ⟨hl, by rw [hΓ.len]; exact hi, by rw [hΓ.len]; exact hj⟩]
          refine hw rs _ ⟨by simp [clr, hΓ.len], fun n r hn => ?_⟩
          obtain ⟨n1, n2, ⟨d, rfl⟩, h3⟩ := hs n r hn
          rw [List.getElem?_set_ne (Ne.symm n2), List.getElem?_set_ne (Ne.symm n1)]
          unfold clr
          rw [List.getElem?_map, hΓ.at' n _ h3]
          rfl
        · rw [if_neg hl]; trivial
end
section
variable [Tb] {X : Cx} {c : LC}
theorem rs_spoil' (hp : PassesOwn (model X.prog X.w) X.A X.env X.xe) (cy : Cy X c) {i j : Nat} {x y : Str} {px px2 py pos pos2 pos3 pos4 : Pos} {e te re : Expr} {body rest : List Stmt} {call : FE} {ft : FT} {fr : FE} {w : FS}
    (hij : i ≠ j) (hi : X.N[i]? = some x) (hx : Loc X.env.scope x) (hvx : Vis X.env.scope x) (hj : X.N[j]? = some y) (hy : Loc X.env.scope y) (he : PE X e (tEn c call)) (ht : L2.PT X te (tT c ft)) (hr : PE X re (tE c fr)) (hb : ∃ tb, PSs X body tb ∧ Spoils j tb) (hw : PSs X rest (tS c w))
    (hd : (x == ("__debug__" : Str)) = false := by decide) (hcd : (x == ("__classdict__" : Str)) = false := by decide)
    (hs : swapsWith e (some (.Name x px)) pos.line X.env = pure false := by rfl) (hf : X.fn x = true ∨ X.env.scope.names.lookup x = some .local := by first | exact .inl rfl | exact .inr rfl)
    (hfy : X.fn y = true ∨ X.env.scope.names.lookup y = some .local := by first | exact .inl rfl | exact .inr rfl)
    (hfs : ∀ z, foldedSetIterable (.Name x px2) X.env z = pure z := by intro _; rfl) :
    PSs X (.Assign [.Name x px] e pos :: .If te [.Return (some re) pos4] [] pos2 :: .For (.Name y py) (.Name x px2) body [] pos3 :: rest) (tS c (sSpoil i j call ft fr w)) := by
  obtain ⟨tb, h1, h2⟩ := hb
  exact rs_spoil hp cy hij hi hx hvx hj hy he ht hr h1 h2 hw hd hcd hs hf hfy hfs
end
end Ly
end

section
set_option maxRecDepth 100000
set_option maxHeartbeats 1000000
namespace Ly
open PySem PySem.Spec L2
open PyProof.Rows hiding St
variable [Tb]
section
variable {X : Cx} {c : LC} {a b e tg : Expr} {f g h : FE} {u : FS} {pos : Pos} {body : List Stmt}
def kLenT : Rv → Re Rv := fun x => match x with
  | .fr (.dt ks _) => oki ks.length
  | .bo (.dt ks _) => oki ks.length
  | _ => .bad
theorem re_lenT (cy : Cy X c) {p : Pos} (hg : Gl X "len") (hm : X.mg "len" = none) (ha : PE X a (tE c f)) (hs : starEach [a] X.env = [(false, eval a X.env)] := by rfl) : PE X (.Call (.Name "len" p) [a] [] pos) (tE c (e1 kLenT f)) := by
  refine re_b1 (r := rLenT) call_len_dT ?_ hg hm boot_len ha (by decide) (by decide) hs
  intro σ G H x rx Q gh bh hx q
  have main : ∀ (p : Addr) (ks : List (List Key)) (ds : List D), Own c.K G H p (.dt ks ds) → Post c (oki ks.length) σ G H Q → rLenT [.ref p] H Q := by
    intro p ks ds o q
    cases o with
    | dt h1 h2 h3 =>
      subst h2
      refine ⟨p, _, rfl, h1, ?_⟩
      rw [List.length_map] at q
      exact post_sh gh q (.i _)
  unfold kLenT at q
  split at q
  · rename_i ks ds
    obtain ⟨p, rfl, _, _, o⟩ := hx
    exact main p ks ds o q
  · rename_i ks ds
    obtain ⟨p, rfl, _, _, o⟩ := hx
    exact main p ks ds o q
  · exact q.elim
theorem EnvOk.lockT {G H : Hp} {σ : St} {Γ : Env'} (he : EnvOk c G H σ Γ) {i : Nat} {ks : List (List Key)} {ds : List D} (hi : Γ[i]? = some (some (.fr (.dt ks ds)))) :
    ∃ (p : Addr) (kvs : List (List Key × V)), σ[i]? = some (some (.ref p)) ∧ H p = some (.dT kvs) ∧ ks = kvs.map (·.1) ∧ G p = none ∧ ∀ od, EnvOk c (upd G p (.frz od (.dT kvs))) (upd H p (.frz od (.dT kvs))) σ (Γ.set i (some (.sh (.dt ks ds)))) := by
  obtain ⟨v, h1, ⟨p, rfl, bp, gp, o⟩, _⟩ := he.at' i _ hi
  cases o with
  | @dt kvs _ _ hp hk rs =>
    refine ⟨p, kvs, h1, hp, hk, gp, fun od => ?_⟩
    have sm : Same G (upd G p (.frz od (.dT kvs))) := fun b x q => by rw [upd_ne (ne_of_none q gp)]; exact q
    refine ⟨Kept.upd he.bh bp, he.g0.trans sm, fun b x q => ?_, fun b x q n => ?_, he.gt.upd (fun _ z => by cases z), tabs_put he.tb hp ⟨fun _ z => (by cases z), fun _ z => (by cases z)⟩, by simpa using he.len, fun j r hj => ?_, fun j k x y q hj hk sj sk => ?_⟩
    · by_cases hb : b = p
      · subst hb; rw [upd_same] at q ⊢; exact q
      · rw [upd_ne hb] at q ⊢; exact he.gh b x q
    · by_cases hb : b = p
      · subst hb; exact absurd bp n
      · rw [upd_ne hb] at q; exact he.gf b x q n
    · rcases set_get hj with ⟨rfl, rfl, hl⟩ | ⟨hne, hj⟩
      · exact ⟨.ref p, h1, Rep.dt (.inr ⟨od, upd_same⟩) hk (rs.mono sm), fun _ z => by cases z⟩
      · obtain ⟨v', h1', h2', h3'⟩ := he.at' j r hj
        refine ⟨v', h1', ?_, h3'⟩
        cases r with
        | sh d' => exact Rep.mono sm h2'
        | fr d' =>
          obtain ⟨p', rfl, bp', gp', o'⟩ := h2'
          have np : p' ≠ p := fun z => by subst z; exact hne (he.sep j i _ _ p' hj hi h1' h1)
          refine ⟨p', rfl, bp', by rw [upd_ne np]; exact gp', ?_⟩
          cases o' with
          | l w1 w2 => exact .l (by rw [upd_ne np]; exact w1) (w2.mono sm)
          | dk w1 w2 w3 => exact .dk (by rw [upd_ne np]; exact w1) w2 (w3.mono sm)
          | dt w1 w2 w3 => exact .dt (by rw [upd_ne np]; exact w1) w2 (w3.mono sm)
        | bo d' => exact absurd rfl (h3' d')
    · rcases set_get hj with ⟨_, z, _⟩ | ⟨nj, hj⟩
      · cases z
      · rcases set_get hk with ⟨_, z, _⟩ | ⟨nk, hk⟩
        · cases z
        · exact he.sep j k x y q hj hk sj sk
def WalkT (G : Hp) (J : It) (ks : List (List Key)) : Prop := ∀ (G1 H1 : Hp), Same G G1 → Same G1 H1 → (∀ (i : Nat) (k : List Key), ks[i]? = some k → J.go i H1 ∧ ∀ x H2, J.yld i H1 x H2 → H2 = H1 ∧ ∃ q, x = .ref q ∧ H1 q = some (.tup (k.map kV))) ∧ (∀ i, ks.length ≤ i → J.stop i H1)
theorem walk_keysT {G : Hp} {d : Addr} {o : Obj} {kvs : List (List Key × V)} (h : G d = some (.frz o (.dT kvs))) : WalkT G (Itkt d o kvs) (kvs.map (·.1)) := by
  intro G1 H1 s1 s2
  refine ⟨fun i k hi => ?_, fun i hi => ⟨s2 _ _ (s1 _ _ h), by simpa using hi⟩⟩
  rw [List.getElem?_map] at hi
  obtain ⟨⟨k', v⟩, hkv, rfl⟩ := Option.map_eq_some_iff.mp hi
  refine ⟨⟨s2 _ _ (s1 _ _ h), (List.getElem?_eq_some_iff.mp hkv).1⟩, ?_⟩
  rintro x H2 ⟨rfl, k2, v2, q, e2, rfl, hq⟩
  rw [hkv] at e2
  cases e2
  exact ⟨rfl, q, rfl, hq⟩
theorem reps_keys {K : PySem.W.Frag} {G : Hp} : ∀ ks : List Key, Reps K G (ks.map kV) (ks.map keyD)
  | [] => .nil
  | .inl z :: ks => .cons (.i z) (reps_keys ks)
  | .inr z :: ks => .cons (.s z) (reps_keys ks)
theorem for_loopT {J : It} {ks : List (List Key)} {is : List Nat} {G1 H1 : Hp} {σ : St} {Γ : Env'} {D : Ends} (he : EnvOk c G1 H1 σ Γ) (w : WalkT G1 J ks) (q : PostS c (forL (.tup is) u (ks.map fun k => Ly.D.t (k.map keyD)) Γ) G1 D) :
    ∃ W : Nat → Nat → St → Hp → Prop, (∃ m, W 0 m σ H1) ∧ ∀ i m σ H, W i m σ H → (J.stop i H ∧ D.nx σ H) ∨ (J.go i H ∧ ∃ N : St → Hp → Prop, (∀ σ' H', N σ' H' → ∃ m', m' < m ∧ W (i + 1) m' σ' H') ∧
      ∀ x H', J.yld i H x H' → (Tg.tup is).tgt c.K x σ H' fun σ2 H2 => tS c u { D with nx := N, ct := N, bk := D.nx } σ2 H2) := by
  generalize hds : (ks.map fun k => Ly.D.t (k.map keyD)) = ds at q
  have hlen : ds.length = ks.length := by rw [← hds, List.length_map]
  refine ⟨fun i m σ' H' => m = ds.length - i ∧ i ≤ ds.length ∧ ∃ Gi Γi, EnvOk c Gi H' σ' Γi ∧ Same G1 Gi ∧ PostS c (forL (.tup is) u (ds.drop i) Γi) Gi D,
    ⟨ds.length, by simp, Nat.zero_le _, G1, Γ, he, Same.refl _, q⟩, ?_⟩
  rintro i m σ' H' ⟨rfl, hi, Gi, Γi, hei, si, qi⟩
  obtain ⟨w1, w2⟩ := w Gi H' si hei.gh
  by_cases hl : i < ds.length
  · obtain ⟨k, hk⟩ : ∃ k, ks[i]? = some k := ⟨ks[i], List.getElem?_eq_getElem (by omega)⟩
    have hd : ds[i]? = some (Ly.D.t (k.map keyD)) := by rw [← hds, List.getElem?_map, hk]; rfl
    have hdrop : ds.drop i = Ly.D.t (k.map keyD) :: ds.drop (i + 1) := by
      rw [List.drop_eq_getElem_cons hl]
      congr 1
      simpa [hl] using hd
    rw [hdrop] at qi
    obtain ⟨go, yl⟩ := w1 i k hk
    refine .inr ⟨go, fun σ'' H'' => ∃ Gj Γj, EnvOk c Gj H'' σ'' Γj ∧ Same G1 Gj ∧ PostS c (forL (.tup is) u (ds.drop (i + 1)) Γj) Gj D,
      fun σ'' H'' ⟨Gj, Γj, hej, sj, qj⟩ => ⟨ds.length - (i + 1), by omega, rfl, hl, Gj, Γj, hej, sj, qj⟩, fun x H2 hy => ?_⟩
    obtain ⟨rfl, p, rfl, hp⟩ := yl x H2 hy
    unfold forL at qi
    cases et : (Tg.tup is).set (Ly.D.t (k.map keyD)) Γi with
    | none => rw [et] at qi; exact qi.elim
    | some Γ1 =>
      rw [et] at qi
      have et' : setN is (k.map keyD) Γi = some Γ1 := et
      refine ⟨p, _, rfl, SqT.of hp, by have z := setN_length et'; rw [List.length_map] at z ⊢; omega, gNames_ok hei (reps_keys k) et' fun σ2 he3 _ => ⟨Gi, Γ1, he3, ?_⟩⟩
      have qi : PostS c (match u Γ1 with | .nx Γ' => forL (.tup is) u (ds.drop (i + 1)) Γ' | .ct Γ' => forL (.tup is) u (ds.drop (i + 1)) Γ' | .bk Γ' => .nx Γ' | .rt r => .rt r | .ex e Γ' => .ex e Γ' | .bad => .bad) Gi D := qi
      cases eu : u Γ1 with
      | nx Γ' => rw [eu] at qi; exact fun σ3 G3 H3 he4 s3 => ⟨G3, Γ', he4, si.trans s3, PostS.later s3 qi⟩
      | ct Γ' => rw [eu] at qi; exact fun σ3 G3 H3 he4 s3 => ⟨G3, Γ', he4, si.trans s3, PostS.later s3 qi⟩
      | bk Γ' => rw [eu] at qi; exact qi
      | rt r => rw [eu] at qi; exact qi
      | ex x Γ' => rw [eu] at qi; exact qi
      | bad => rw [eu] at qi; exact qi
  · have ei : i = ds.length := by omega
    subst ei
    refine .inl ⟨w2 _ (by omega), ?_⟩
    rw [List.drop_length] at qi
    exact qi σ' Gi H' hei (Same.refl _)
def sForT (i : Nat) (is : List Nat) (u : FS) : FS := fun Γ => match Γ[i]? with
  | some (some (.fr (.dt ks ds))) => forL (.tup is) u (ks.map fun k => D.t (k.map keyD)) (Γ.set i (some (.sh (.dt ks ds))))
  | _ => .bad
theorem rs_forT (hp : PassesOwn (model X.prog X.w) X.A X.env X.xe) (cy : Cy X c) {i : Nat} {x : Str} {p' : Pos} {is : List Nat} (hN : X.N[i]? = some x) (hv : Vis X.env.scope x) (hg : PG X tg ((Tg.tup is).tgt c.K)) (hb : PSs X body (tS c u))
    (hd : (x == ("__debug__" : Str)) = false := by decide) (hcd : (x == ("__classdict__" : Str)) = false := by decide)
    (hs : ∀ y, foldedSetIterable (.Name x p') X.env y = pure y := by intro _; rfl) : PS X (.For tg (.Name x p') body [] pos) (tS c (sForT i is u)) := by
  have h1 : PS X (.For tg (.Name x p') body [] pos) (tFor (iKeys (tVar i)) ((Tg.tup is).tgt c.K) (tS c u)) := ps_for hp cy.calm (pi_keys (pe_var hN hv hd hcd)) hg hb hs
  refine PS.weak (ps_lock0 h1) ?_
  rintro D σ H ⟨G, Γ, he, q⟩
  unfold sForT at q
  split at q
  · rename_i ks ds hi
    obtain ⟨p, kvs, e1, e2, e3, e4, e5⟩ := he.lockT hi
    subst e3
    refine ⟨p, _, e2, True.intro, fun od => ⟨.ref p, e1, p, od, rfl, .inr ⟨kvs, upd_same, ?_⟩⟩⟩
    exact for_loopT (e5 od) (walk_keysT upd_same) (PostS.later (fun b x z => by rw [upd_ne (ne_of_none z e4)]; exact z) q)
  · exact q.elim
end
end Ly
namespace Ly
open PySem PySem.Spec L2
open PyProof.Rows hiding St
section
variable {m : Nat} {L : Lk} {k k1 k2 k3 k4 k5 : Kd} {α β γ δ ε τ ω S : Type} {e : τ → D} {ea : α → D} {eb : β → D} {f g h : FE} {u w : FS} {P : ω → Fl → Prop} {i : Nat} {t : Tg}
abbrev keyP (p : Int × Int) : List Key := [.inl p.1, .inl p.2]
abbrev eDp (e : α → D) : List ((Int × Int) × α) → D := fun A => .dt (A.map fun p => keyP p.1) (A.map fun p => e p.2)
theorem keyP_inj : ∀ a b : Int × Int, keyP a = keyP b → a = b := fun a b h => by
  unfold keyP at h
  injection h with h1 h2
  injection h2 with h2 _
  exact Prod.ext (Sum.inl.inj h1) (Sum.inl.inj h2)
theorem er_dp0 {α : Type} {ea : α → D} : ER m L .fr (eDp ea) (.ok []) eDt0 := fun _ _ => rfl
theorem o_inDpF {a : Int × Int} {A : List ((Int × Int) × α)} : RE1 .sh eB (.ok (alook A a).isSome) (kIn false (k1.v (eP2 eI eI a)) (k2.v (eDp ea A))) := by
  show kIn _ _ _ = _
  unfold kIn inD
  rw [Kd.v_d, Kd.v_d]
  dsimp only [dlook, D.keys?, D.key?, Option.map_some]
  have := kget_map (ea := ea) keyP_inj A a
  unfold keyP at this
  rw [this]
  cases alook A a <;> rfl
theorem o_dgetP {a : Int × Int} {A : List ((Int × Int) × α)} : RE1 .sh ea (dgetT A a) (kDget (k1.v (eDp ea A)) (k2.v (eP2 eI eI a))) := by
  unfold dgetT
  split
  · rename_i v hv
    show kDget _ _ = _
    unfold kDget
    rw [Kd.v_d, Kd.v_d]
    dsimp only [dlook, D.keys?, D.key?, Option.map_some]
    have := kget_map (ea := ea) keyP_inj A a
    unfold keyP at this
    rw [this, hv]
    rfl
  · trivial
theorem o_lenP {A : List ((Int × Int) × α)} (hk : k1 ≠ .sh) : RE1 .sh eI (.ok (A.length : Int)) (kLenT (k1.v (eDp ea A))) := by
  cases k1 with
  | sh => exact absurd rfl hk
  | fr => show oki _ = _; rw [List.length_map]; rfl
  | bo => show oki _ = _; rw [List.length_map]; rfl
@[irreducible] def dputP (A : List ((Int × Int) × α)) (n : Int × Int) (v : α) : Re (List ((Int × Int) × α)) := if A.length < 16777216 then .ok (aput A n v) else .bad
theorem dputP_ok {A : List ((Int × Int) × α)} {n : Int × Int} {v : α} (h : A.length < 16777216) : dputP A n v = .ok (aput A n v) := by unfold dputP; exact if_pos h
theorem bg_dputP {A : List ((Int × Int) × α)} {x : Re α} {y : Re (Int × Int)} {K : List ((Int × Int) × α) → Re ω} (hl : lk i L = some (.fr (eDp ea A))) (hk : k.ok = true) (hx : ER m L k ea x g) (hy : ER m L k1 (eP2 eI eI) y f) (h : ∀ B, BG m ((i, .fr (eDp ea B)) :: L) P (K B) w) : BG m L P (x.bind fun a => y.bind fun n => (dputP A n a).bind K) (sSeq (sDput i f g) w) := fun Γ hΓ => by
  have h1 := hx Γ hΓ
  have h3 := hy Γ hΓ
  have h2 := hΓ.at' i _ hl
  have hi : i < m := by rw [← hΓ.len]; exact (List.getElem?_eq_some_iff.mp h2).1
  have e0 : sDput i f g Γ = (g Γ).fl Γ fun r => (share r).fl Γ fun d => (f Γ).fl Γ fun k => (match dput (eDp ea A) k.d d with | some t' => .nx (Γ.set i (some (.fr t'))) | none => .bad) := by
    unfold sDput
    rw [h2]
    all_goals rfl
  unfold sSeq
  rw [e0]
  cases x with
  | ok a =>
    have h1 : g Γ = .ok _ := h1
    rw [h1, fl_ok, Kd.share hk, fl_ok]
    cases y with
    | ok n =>
      have h3 : f Γ = .ok _ := h3
      rw [h3, fl_ok, Kd.v_d]
      show RS P ((dputP A n a).bind K) _
      unfold dputP
      by_cases hn : A.length < 16777216
      · rw [if_pos hn]
        have e1 : dput (eDp ea A) (eP2 eI eI n) (ea a) = some (eDp ea (aput A n a)) := by
          show (if (A.map fun p => keyP p.1).length < 16777216 then (match eP2 eI eI n with | .t kd => (D.keys? kd).map fun k => D.dt (kput (A.map fun p => keyP p.1) (A.map fun p => ea p.2) k (ea a)).1 (kput (A.map fun p => keyP p.1) (A.map fun p => ea p.2) k (ea a)).2 | _ => none) else none) = _
          rw [if_pos (by simpa using hn)]
          dsimp only [D.keys?, D.key?, Option.map_some]
          have := kput_map (ea := ea) keyP_inj A n a
          rw [this]
        rw [e1]
        exact h _ _ (hΓ.set hi _)
      · rw [if_neg hn]; trivial
    | ex z => have h3 : f Γ = .ex z := h3; rw [h3]; exact ⟨Γ, rfl⟩
    | bad => trivial
  | ex z => have h1 : g Γ = .ex z := h1; rw [h1]; exact ⟨Γ, rfl⟩
  | bad => trivial
theorem ir_cP {as : List (Int × Int)} : IR m L (eP2 eI eI) (.ok as) (fiC (as.map (eP2 eI eI))) := fun _ _ => rfl
theorem bg_forTS {A : List ((Int × Int) × α)} {is : List Nat} {T : Re ω} (hl : lk i L = some (.fr (eDp ea A))) (h : BG m (frzL i L) P T (sSeq (sFor (fiC ((A.map fun p => p.1).map (eP2 eI eI))) (.tup is) u) w)) : BG m L P T (sSeq (sForT i is u) w) := fun Γ hΓ => by
  have h1 := h _ (hΓ.frz i)
  have h2 := hΓ.at' i _ hl
  have ek : ((A.map fun p => keyP p.1).map fun k => D.t (k.map keyD)) = (A.map fun p => p.1).map (eP2 eI eI) := by rw [List.map_map, List.map_map]; rfl
  have e1 : sForT i is u Γ = sFor (fiC ((A.map fun p => p.1).map (eP2 eI eI))) (.tup is) u (frz i Γ) := by
    unfold sForT frz
    rw [h2]
    show forL (.tup is) u ((A.map fun p => keyP p.1).map fun k => D.t (k.map keyD)) _ = _
    rw [ek]
    rfl
  have e2 : sSeq (sForT i is u) w Γ = sSeq (sFor (fiC ((A.map fun p => p.1).map (eP2 eI eI))) (.tup is) u) w (frz i Γ) := by
    show (match sForT i is u Γ with | .nx Γ' => w Γ' | o => o) = (match sFor (fiC ((A.map fun p => p.1).map (eP2 eI eI))) (.tup is) u (frz i Γ) with | .nx Γ' => w Γ' | o => o)
    rw [e1]
  rw [e2]; exact h1
end
end Ly
end

section
set_option maxRecDepth 100000
set_option maxHeartbeats 1000000
namespace Ly
open PySem PySem.Spec L2
open PyProof.Rows hiding St
variable [Tb]
abbrev Mx := List (List Int)
def rowD (r : List Int) : D := .l (r.map .i)
structure Cells (c : LC) (G H : Hp) (p : Addr) (qs : List Addr) (M : Mx) : Prop where
  top : H p = some (.lst (qs.map .ref))
  nd : (p :: qs).Nodup
  len : qs.length = M.length
  row : ∀ (j : Nat) (q : Addr) (r : List Int), qs[j]? = some q → M[j]? = some r → H q = some (.lst (r.map .int))
  nb : ∀ q ∈ p :: qs, Non c.B q ∧ G q = none
theorem Cells.at' {c : LC} {G H : Hp} {p q : Addr} {qs : List Addr} {M : Mx} (h : Cells c G H p qs M) (hq : q ∈ p :: qs) : ∃ xs, H q = some (.lst xs) := by
  rcases List.mem_cons.mp hq with rfl | hq
  · exact ⟨_, h.top⟩
  · obtain ⟨j, hj, e⟩ := List.getElem_of_mem hq
    have hl := h.len
    exact ⟨_, h.row j q M[j] (by rw [List.getElem?_eq_getElem hj, e]) (List.getElem?_eq_getElem (by omega))⟩
theorem Cells.live {c : LC} {G H : Hp} {p q : Addr} {qs : List Addr} {M : Mx} (h : Cells c G H p qs M) (hq : q ∈ p :: qs) : ¬ Non H q := by
  obtain ⟨xs, e⟩ := h.at' hq
  exact live_of e
structure MatOk (c : LC) (i : Nat) (p : Addr) (qs : List Addr) (G H : Hp) (σ : St) (Γ : Env') (M : Mx) : Prop where
  en : EnvOk c G H σ Γ
  slot : Γ[i]? = some (some (.sh (.o p)))
  cl : Cells c G H p qs M
  sp : ∀ (j : Nat) (d : D) (a : Addr), Γ[j]? = some (some (.fr d)) → σ[j]? = some (some (.ref a)) → a ∉ p :: qs
theorem MatOk.mono {c : LC} {i : Nat} {p : Addr} {qs : List Addr} {G H G' H' : Hp} {σ : St} {Γ : Env'} {M : Mx} (m : MatOk c i p qs G H σ Γ M) (g : Gr G H G' H') : MatOk c i p qs G' H' σ Γ M :=
  ⟨m.en.mono g, m.slot, ⟨g.hh _ _ m.cl.top (fun _ z => by cases z), m.cl.nd, m.cl.len, fun j q r h1 h2 => g.hh _ _ (m.cl.row j q r h1 h2) (fun _ z => by cases z), fun q hq => ⟨(m.cl.nb q hq).1, g.keepNone (m.cl.nb q hq).2 (m.cl.live hq)⟩⟩, m.sp⟩
theorem MatOk.val {c : LC} {i : Nat} {p : Addr} {qs : List Addr} {G H : Hp} {σ : St} {Γ : Env'} {M : Mx} (m : MatOk c i p qs G H σ Γ M) : σ[i]? = some (some (.ref p)) := by
  obtain ⟨v, h1, h2, _⟩ := m.en.at' i _ m.slot
  cases h2
  exact h1
def LC.wth (c : LC) (H : Hp) (ps : List Addr) : LC := ⟨c.K, c.mg, fun a => if a ∈ ps then H a else c.B a, c.G0, c.W⟩
theorem MatOk.fr {c : LC} {i : Nat} {p : Addr} {qs : List Addr} {G H : Hp} {σ : St} {Γ : Env'} {M : Mx} (m : MatOk c i p qs G H σ Γ M) : EnvOk (c.wth H (p :: qs)) G H σ Γ := by
  refine ⟨fun b o e n => ?_, m.en.g0, m.en.gh, fun a o e n => ?_, m.en.gt, m.en.tb, m.en.len, fun j r hj => ?_, m.en.sep⟩
  · have e : (if b ∈ p :: qs then H b else c.B b) = some o := e
    by_cases hb : b ∈ p :: qs
    · rwa [if_pos hb] at e
    · rw [if_neg hb] at e; exact m.en.bh b o e n
  · by_cases ha : a ∈ p :: qs
    · rw [(m.cl.nb a ha).2] at e; cases e
    · exact m.en.gf a o e fun z => n fun o' e' => by
        have e' : (if a ∈ p :: qs then H a else c.B a) = some o' := e'
        rw [if_neg ha] at e'
        exact z o' e'
  · obtain ⟨v, h1, h2, h3⟩ := m.en.at' j r hj
    refine ⟨v, h1, ?_, h3⟩
    cases r with
    | sh d => exact h2
    | fr d =>
      obtain ⟨a, rfl, n, g, o⟩ := h2
      have ha := m.sp j d a hj h1
      refine ⟨a, rfl, fun o' e' => ?_, g, o⟩
      have e' : (if a ∈ p :: qs then H a else c.B a) = some o' := e'
      rw [if_neg ha] at e'
      exact n o' e'
    | bo d => exact absurd rfl (h3 d)
theorem MatOk.back {c : LC} {i : Nat} {p : Addr} {qs : List Addr} {G H G' H' : Hp} {σ σ' : St} {Γ Γ' : Env'} {M : Mx} (m : MatOk c i p qs G H σ Γ M) (e : EnvOk (c.wth H (p :: qs)) G' H' σ' Γ') (sl : Γ'[i]? = some (some (.sh (.o p)))) : MatOk c i p qs G' H' σ' Γ' M := by
  have hB : ∀ a, a ∉ p :: qs → (c.wth H (p :: qs)).B a = c.B a := fun a ha => if_neg ha
  have hC : ∀ a, a ∈ p :: qs → (c.wth H (p :: qs)).B a = H a := fun a ha => if_pos ha
  have nC : ∀ a, a ∈ p :: qs → ¬ Non (c.wth H (p :: qs)).B a := fun a ha n => by
    obtain ⟨xs, ex⟩ := m.cl.at' ha
    exact live_of (H := (c.wth H (p :: qs)).B) (by rw [hC a ha]; exact ex) (fun _ z => by cases z) n
  have kp : ∀ a xs, a ∈ p :: qs → H a = some (.lst xs) → H' a = some (.lst xs) := fun a xs ha ex => e.bh a _ (by rw [hC a ha]; exact ex) (fun _ z => by cases z)
  refine ⟨⟨fun b o eb n => ?_, e.g0, e.gh, fun a o ea n => ?_, e.gt, e.tb, e.len, fun j r hj => ?_, e.sep⟩, sl, ⟨kp _ _ List.mem_cons_self m.cl.top, m.cl.nd, m.cl.len, fun j q r h1 h2 => kp _ _ (List.mem_cons_of_mem _ (List.mem_of_getElem? h1)) (m.cl.row j q r h1 h2), fun q hq => ⟨(m.cl.nb q hq).1, ?_⟩⟩, fun j d a hj sj ha => ?_⟩
  · by_cases hb : b ∈ p :: qs
    · obtain ⟨ps, z⟩ := (m.cl.nb b hb).1 o eb
      exact absurd z (n ps)
    · exact e.bh b o (by rw [hB b hb]; exact eb) n
  · refine e.gf a o ea fun z => n ?_
    by_cases ha : a ∈ p :: qs
    · exact (m.cl.nb a ha).1
    · exact fun o' e' => z o' (by rw [hB a ha]; exact e')
  · obtain ⟨v, h1, h2, h3⟩ := e.at' j r hj
    refine ⟨v, h1, ?_, h3⟩
    cases r with
    | sh d => exact h2
    | fr d =>
      obtain ⟨a, rfl, n, g, o⟩ := h2
      have ha : a ∉ p :: qs := fun z => nC a z n
      exact ⟨a, rfl, fun o' e' => n o' (by rw [hB a ha]; exact e'), g, o⟩
    | bo d => exact absurd rfl (h3 d)
  · cases eg : G' q with
    | none => rfl
    | some o =>
      have h0 := e.gf q o eg (nC q hq)
      have h1 := m.en.g0 q o h0
      rw [(m.cl.nb q hq).2] at h1
      cases h1
  · obtain ⟨v, h1, h2, _⟩ := e.at' j _ hj
    rw [sj] at h1
    cases h1
    obtain ⟨a', ea, n, _, _⟩ := h2
    cases ea
    exact nC a ha n
inductive Fm where
  | nx (Γ : Env') (M : Mx) | rt (M : Mx) | bad
abbrev FM := Env' → Mx → Fm
def PostM (c : LC) (i : Nat) (p : Addr) (qs : List Addr) (r : Fm) (G : Hp) (D : Ends) : Prop := match r with
  | .nx Γ' M' => ∀ σ' G' H', MatOk c i p qs G' H' σ' Γ' M' → Same G G' → D.nx σ' H'
  | .rt M' => ∀ v G' H', EndOk c G' H' → Same G G' → RV c G' H' v (.fr (.l (M'.map rowD))) → D.rt v H'
  | .bad => False
def tM (c : LC) (i : Nat) (f : FM) : TS := fun D σ H => ∃ p qs G Γ M, MatOk c i p qs G H σ Γ M ∧ PostM c i p qs (f Γ M) G D
theorem PostM.later {c : LC} {i : Nat} {p : Addr} {qs : List Addr} {r : Fm} {G G1 : Hp} {D : Ends} (g : Same G G1) (h : PostM c i p qs r G D) : PostM c i p qs r G1 D := by
  cases r with
  | nx Γ M => exact fun σ' G' H' e s => h σ' G' H' e (g.trans s)
  | rt M => exact fun v G' H' e s => h v G' H' e (g.trans s)
  | bad => exact h
section
variable {X : Cx} {c : LC} {i : Nat} {st : Stmt} {rest body : List Stmt} {u w : FM} {tg it : Expr} {pos : Pos}
def mNil : FM := fun Γ M => .nx Γ M
theorem mm_nil : PSs X [] (tM c i mNil) := PSs.weak pss_nil fun D σ H ⟨p, qs, G, Γ, M, m, q⟩ => q σ G H m (Same.refl _)
def mSeq (u w : FM) : FM := fun Γ M => match u Γ M with | .nx Γ' M' => w Γ' M' | o => o
theorem mm_cons (h1 : PS X st (tM c i u)) (h2 : PSs X rest (tM c i w)) : PSs X (st :: rest) (tM c i (mSeq u w)) := by
  refine PSs.weak (pss_cons h1 h2) ?_
  rintro D σ H ⟨p, qs, G, Γ, M, m, q⟩
  refine ⟨p, qs, G, Γ, M, m, ?_⟩
  unfold mSeq at q
  cases e : u Γ M with
  | nx Γ' M' => rw [e] at q; exact fun σ' G' H' m' s => ⟨p, qs, G', Γ', M', m', PostM.later s q⟩
  | rt M' => rw [e] at q; exact q
  | bad => rw [e] at q; exact q.elim
def mLift (i : Nat) (u : FS) : FM := fun Γ M => match u Γ with
  | .nx Γ' => (match Γ[i]?, Γ'[i]? with
    | some (some (.sh (.o p))), some (some (.sh (.o p'))) => if p = p' then .nx Γ' M else .bad
    | _, _ => .bad)
  | _ => .bad
theorem mm_lift (cy : Cy X c) {u : FS} (h : ∀ c', Cy X c' → PS X st (tS c' u)) : PS X st (tM c i (mLift i u)) := by
  refine ⟨fun pins s σ H D I q => ?_⟩
  obtain ⟨p, qs, G, Γ, M, m, q⟩ := q
  refine (h (c.wth H (p :: qs)) ⟨cy.K, cy.mg, cy.tk, cy.calm, cy.nd, cy.un⟩).run pins s σ H D I ⟨G, Γ, m.fr, ?_⟩
  unfold mLift at q
  cases e : u Γ with
  | nx Γ' =>
    rw [e, m.slot] at q
    intro σ' G' H' e' s'
    dsimp only at q
    split at q
    · rename_i p1 p2 ep1 ep2
      cases ep1
      split at q
      · rename_i ez
        subst ez
        exact q σ' G' H' (m.back e' ep2) s'
      · exact q.elim
    · exact q.elim
  | bk Γ' => rw [e] at q; exact q.elim
  | ct Γ' => rw [e] at q; exact q.elim
  | rt r => rw [e] at q; exact q.elim
  | ex x Γ' => rw [e] at q; exact q.elim
  | bad => rw [e] at q; exact q.elim
def forM (t : Tg) (u : FM) : List D → FM
  | [], Γ, M => .nx Γ M
  | d :: ds, Γ, M => match t.set d Γ with
    | some Γ1 => (match u Γ1 M with | .nx Γ' M' => forM t u ds Γ' M' | o => o)
    | none => .bad
def mFor (fi : FI) (t : Tg) (u : FM) : FM := fun Γ M => match fi Γ with
  | .ok ds => forM t u ds Γ M | _ => .bad
theorem setN_out {i : Nat} : ∀ {is : List Nat} {ds : List D} {Γ Γ' : Env'}, setN is ds Γ = some Γ' → i ∉ is → Γ'[i]? = Γ[i]?
  | [], [], _, _, h, _ => by cases h; rfl
  | [], _ :: _, _, _, h, _ => by cases h
  | _ :: _, [], _, _, h, _ => by cases h
  | j :: is, d :: ds, Γ, Γ', h, n => by
    rw [setN_out (is := is) (ds := ds) h fun z => n (List.mem_cons_of_mem _ z), List.getElem?_set_ne fun z => n (by rw [z]; exact List.mem_cons_self)]
theorem tset_out {i : Nat} {t : Tg} {d : D} {Γ Γ' : Env'} (h : t.set d Γ = some Γ') (n : i ∉ t.ix) : Γ'[i]? = Γ[i]? := by
  cases t with
  | one j => cases h; exact List.getElem?_set_ne fun z => n (by rw [z]; exact List.mem_cons_self)
  | tup is =>
    cases d with
    | t ds => exact setN_out h n
    | _ => cases h
theorem setN_fr {j : Nat} {x : D} : ∀ {is : List Nat} {ds : List D} {Γ Γ' : Env'}, setN is ds Γ = some Γ' → Γ'[j]? = some (some (.fr x)) → j ∉ is ∧ Γ[j]? = some (some (.fr x))
  | [], [], _, _, h, e => by cases h; exact ⟨fun z => (by cases z), e⟩
  | [], _ :: _, _, _, h, _ => by cases h
  | _ :: _, [], _, _, h, _ => by cases h
  | k :: is, d :: ds, Γ, Γ', h, e => by
    obtain ⟨h1, h2⟩ := setN_fr (is := is) (ds := ds) h e
    by_cases z : k = j
    · subst z
      by_cases hl : k < Γ.length
      · rw [List.getElem?_set_self hl] at h2; cases h2
      · rw [List.getElem?_eq_none (by simpa using hl)] at h2; cases h2
    · rw [List.getElem?_set_ne z] at h2
      exact ⟨fun w => (List.mem_cons.mp w).elim (fun w => z w.symm) h1, h2⟩
theorem tset_fr {j : Nat} {x : D} {t : Tg} {d : D} {Γ Γ' : Env'} (h : t.set d Γ = some Γ') (e : Γ'[j]? = some (some (.fr x))) : j ∉ t.ix ∧ Γ[j]? = some (some (.fr x)) := by
  cases t with
  | one k =>
    cases h
    by_cases z : k = j
    · subst z
      by_cases hl : k < Γ.length
      · rw [List.getElem?_set_self hl] at e; cases e
      · rw [List.getElem?_eq_none (by simpa using hl)] at e; cases e
    · rw [List.getElem?_set_ne z] at e
      exact ⟨fun w => z (List.mem_singleton.mp w).symm, e⟩
  | tup is =>
    cases d with
    | t ds => exact setN_fr h e
    | _ => cases h
theorem for_loopM {p : Addr} {qs : List Addr} {M : Mx} {J : It} {ds : List D} {t : Tg} {G1 H1 : Hp} {σ : St} {Γ : Env'} {D : Ends} (hi' : i ∉ t.ix) (m0 : MatOk c i p qs G1 H1 σ Γ M) (w : WalkOk c.K G1 J ds) (q : PostM c i p qs (forM t u ds Γ M) G1 D) :
    ∃ W : Nat → Nat → St → Hp → Prop, (∃ m, W 0 m σ H1) ∧ ∀ k m σ H, W k m σ H → (J.stop k H ∧ D.nx σ H) ∨ (J.go k H ∧ ∃ N : St → Hp → Prop, (∀ σ' H', N σ' H' → ∃ m', m' < m ∧ W (k + 1) m' σ' H') ∧
      ∀ x H', J.yld k H x H' → t.tgt c.K x σ H' fun σ2 H2 => tM c i u { D with nx := N, ct := N, bk := D.nx } σ2 H2) := by
  refine ⟨fun k m σ' H' => m = ds.length - k ∧ k ≤ ds.length ∧ ∃ Gi Γi Mi, MatOk c i p qs Gi H' σ' Γi Mi ∧ Same G1 Gi ∧ PostM c i p qs (forM t u (ds.drop k) Γi Mi) Gi D,
    ⟨ds.length, by simp, Nat.zero_le _, G1, Γ, M, m0, Same.refl _, q⟩, ?_⟩
  rintro k m σ' H' ⟨rfl, hk, Gi, Γi, Mi, mi, si, qi⟩
  by_cases hl : k < ds.length
  · obtain ⟨d, hd⟩ : ∃ d, ds[k]? = some d := ⟨ds[k], by simp [hl]⟩
    have hdrop : ds.drop k = d :: ds.drop (k + 1) := by
      rw [List.drop_eq_getElem_cons hl]
      congr 1
      simpa [hl] using hd
    rw [hdrop] at qi
    obtain ⟨go, yl⟩ := w.go Gi H' si mi.en.gh k d hd
    refine .inr ⟨go, fun σ'' H'' => ∃ Gj Γj Mj, MatOk c i p qs Gj H'' σ'' Γj Mj ∧ Same G1 Gj ∧ PostM c i p qs (forM t u (ds.drop (k + 1)) Γj Mj) Gj D,
      fun σ'' H'' ⟨Gj, Γj, Mj, mj, sj, qj⟩ => ⟨ds.length - (k + 1), by omega, rfl, hl, Gj, Γj, Mj, mj, sj, qj⟩, fun x H2 hy => ?_⟩
    obtain ⟨G2, g2, r2⟩ := yl x H2 hy
    have m2 := mi.mono g2
    unfold forM at qi
    cases et : t.set d Γi with
    | none => rw [et] at qi; exact qi.elim
    | some Γ1 =>
      rw [et] at qi
      refine Tg.ok m2.en r2 et fun σ2 he3 hs3 => ?_
      have s2 : Same G1 G2 := si.trans g2.gg
      have m3 : MatOk c i p qs G2 H2 σ2 Γ1 Mi := ⟨he3, by rw [tset_out et hi']; exact m2.slot, m2.cl, fun j x a hj sj => by
        obtain ⟨n1, n2⟩ := tset_fr et hj
        rw [hs3 j n1] at sj
        exact m2.sp j x a n2 sj⟩
      refine ⟨p, qs, G2, Γ1, Mi, m3, ?_⟩
      have qi : PostM c i p qs (match u Γ1 Mi with | .nx Γ' M' => forM t u (ds.drop (k + 1)) Γ' M' | o => o) G2 D := PostM.later g2.gg qi
      cases eu : u Γ1 Mi with
      | nx Γ' M' => rw [eu] at qi; exact fun σ3 G3 H3 he4 s3 => ⟨G3, Γ', M', he4, s2.trans s3, PostM.later s3 qi⟩
      | rt r => rw [eu] at qi; exact qi
      | bad => rw [eu] at qi; exact qi
  · have ei : k = ds.length := by omega
    subst ei
    refine .inl ⟨w.stop H' (si.trans mi.en.gh) _ (Nat.le_refl _), ?_⟩
    rw [List.drop_length] at qi
    exact qi σ' Gi H' mi (Same.refl _)
theorem mm_for (hp : PassesOwn (model X.prog X.w) X.A X.env X.xe) (cy : Cy X c) {fi : FI} {t : Tg} (hi' : i ∉ t.ix) (hi : PI X tg it (tI c fi)) (hg : PG X tg (t.tgt c.K)) (hb : PSs X body (tM c i u))
    (hs : ∀ y, foldedSetIterable it X.env y = pure y := by intro _; rfl) : PS X (.For tg it body [] pos) (tM c i (mFor fi t u)) := by
  refine PS.weak (ps_for hp cy.calm hi hg hb hs) ?_
  rintro D σ H ⟨p, qs, G, Γ, M, m, q⟩
  unfold mFor at q
  refine ⟨G, Γ, m.en, ?_⟩
  cases e : fi Γ with
  | ok ds =>
    rw [e] at q
    intro J G1 H1 g1 w
    exact for_loopM hi' (m.mono g1) w (PostM.later g1.gg q)
  | ex x => rw [e] at q; exact q.elim
  | bad => rw [e] at q; exact q.elim
theorem MatOk.put {p : Addr} {qs : List Addr} {G H : Hp} {σ : St} {Γ : Env'} {M : Mx} (m : MatOk c i p qs G H σ Γ M) {j : Nat} {q : Addr} {r r' : List Int} (hq : qs[j]? = some q) (hr : M[j]? = some r) : MatOk c i p qs G (upd H q (.lst (r'.map .int))) σ Γ (M.set j r') := by
  have hqm : q ∈ p :: qs := List.mem_cons_of_mem _ (List.mem_of_getElem? hq)
  have hrow := m.cl.row j q r hq hr
  obtain ⟨nB, gN⟩ := m.cl.nb q hqm
  have en := m.en
  have pq : p ≠ q := fun z => (List.nodup_cons.mp m.cl.nd).1 (z ▸ List.mem_of_getElem? hq)
  refine ⟨⟨Kept.upd en.bh nB, en.g0, fun b o e => ?_, en.gf, en.gt, tabs_put en.tb hrow ⟨fun _ z => (by cases z), fun _ z => (by cases z)⟩, en.len, fun k rv hk => ?_, en.sep⟩, m.slot, ⟨?_, m.cl.nd, by rw [List.length_set]; exact m.cl.len, fun k q' r2 h1 h2 => ?_, m.cl.nb⟩, m.sp⟩
  · have : b ≠ q := fun z => by rw [z, gN] at e; cases e
    rw [upd_ne this]; exact en.gh b o e
  · obtain ⟨v, h1, h2, h3⟩ := en.at' k rv hk
    refine ⟨v, h1, ?_, h3⟩
    cases rv with
    | sh d => exact h2
    | fr d =>
      obtain ⟨a, rfl, n, g, o⟩ := h2
      have ha : a ≠ q := fun z => m.sp k d a hk h1 (z ▸ hqm)
      refine ⟨a, rfl, n, g, ?_⟩
      cases o with
      | l w1 w2 => exact .l (by rw [upd_ne ha]; exact w1) w2
      | dk w1 w2 w3 => exact .dk (by rw [upd_ne ha]; exact w1) w2 w3
      | dt w1 w2 w3 => exact .dt (by rw [upd_ne ha]; exact w1) w2 w3
    | bo d => exact absurd rfl (h3 d)
  · rw [upd_ne pq]; exact m.cl.top
  · by_cases hk : k = j
    · subst hk
      rw [hq] at h1
      cases h1
      rw [upd_same]
      have hl : k < M.length := (List.getElem?_eq_some_iff.mp hr).1
      rw [List.getElem?_set_self hl] at h2
      cases h2
      rfl
    · have hne : q' ≠ q := fun z => by
        subst z
        have hn := (List.nodup_cons.mp m.cl.nd).2
        obtain ⟨l1, e1⟩ := List.getElem?_eq_some_iff.mp h1
        obtain ⟨l2, e2⟩ := List.getElem?_eq_some_iff.mp hq
        have hp := List.pairwise_iff_getElem.mp hn
        rcases Nat.lt_trichotomy k j with h | h | h
        · exact hp k j l1 l2 h (e1.trans e2.symm)
        · exact hk h
        · exact hp j k l2 l1 h (e2.trans e1.symm)
      rw [upd_ne hne]
      rw [List.getElem?_set_ne (Ne.symm hk)] at h2
      exact m.cl.row k q' r2 h1 h2
def rGetL : V → V → Hp → VK → Prop := fun o y H Q => ∃ (p : Addr) (xs : List V) (k : Nat) (v : V), o = .ref p ∧ y = .int (k : Int) ∧ H p = some (.lst xs) ∧ xs[k]? = some v ∧ Q v H
theorem get_list : PGet X rGetL := by
  intro pins s σ H o y ov iv Q I ro ri h
  obtain ⟨p, xs, k, v, rfl, rfl, hp, hv, q⟩ := h
  cases ro
  obtain ⟨t, rfl⟩ := ri
  obtain ⟨its, r, pl, hz⟩ := I.list (SqL.of hp)
  obtain ⟨w, ew, rw'⟩ := r.get hv
  have hl := r.length
  have hk : k < xs.length := (List.getElem?_eq_some_iff.mp hv).1
  have hs : sizeLine = 16777216 := sizeLine_eq
  exact wpAny_getItem_list pl.isList (by omega) (by omega) (by simpa using ew) ⟨v, H, I, rw', q⟩
def mAug (fa fb fe : FE) : FM := fun Γ M => match fa Γ, fb Γ, fe Γ with
  | .ok (.sh (.i a)), .ok (.sh (.i b)), .ok (.sh (.i z)) => if 0 ≤ a ∧ 0 ≤ b then (match M[a.toNat]? with
      | some r => (match r[b.toNat]? with | some x => .nx Γ (M.set a.toNat (r.set b.toNat (x + z))) | none => .bad)
      | none => .bad) else .bad
  | _, _, _ => .bad
theorem mm_aug {x : Str} {px p1 p2 : Pos} {ea eb ev : Expr} {fa fb fe : FE} (hN : X.N[i]? = some x) (hv : Vis X.env.scope x) (ha : PE X ea (tE c fa)) (hb : PE X eb (tE c fb)) (he : PE X ev (tE c fe)) (cy : Cy X c)
    (hs : PlainIx ea) (hd : (x == ("__debug__" : Str)) = false := by decide) (hcd : (x == ("__classdict__" : Str)) = false := by decide)
    (hst : ∀ ov iv new, augStore eb ov iv new = (do holding [new, ov, iv] (setItem ov iv new); release [new, ov, iv] []; pure .next) := by intros; rfl) :
    PS X (.AugAssign (.Subscript (.Subscript (.Name x px) ea p1) eb p2) .Add ev pos) (tM c i (mAug fa fb fe)) := by
  refine PS.weak (ps_augS (pe_ix ix_list (pe_var hN hv hd hcd) ha hs) hb get_list he ip_add set_list hst) ?_
  rintro D σ H ⟨p, qs, G, Γ, M, m, q⟩
  unfold mAug at q
  split at q
  · rename_i a b z e1 e2 e3
    split at q
    · rename_i h0
      obtain ⟨ha0, hb0⟩ := h0
      split at q
      · rename_i r hr
        split at q
        · rename_i x hx
          obtain ⟨ja, rfl⟩ := Int.eq_ofNat_of_zero_le ha0
          obtain ⟨jb, rfl⟩ := Int.eq_ofNat_of_zero_le hb0
          simp only [Int.toNat_natCast] at hr hx q
          have hlq : ja < qs.length := by rw [m.cl.len]; exact (List.getElem?_eq_some_iff.mp hr).1
          have hq : qs[ja]? = some qs[ja] := List.getElem?_eq_getElem hlq
          generalize qs[ja] = cq at hq
          refine ⟨_, m.val, G, Γ, m.en, ?_⟩
          rw [e1]
          intro v1 G1 H1 g1 r1 _
          have m1 := m.mono g1
          cases r1
          refine ⟨p, _, _, .ref cq, rfl, rfl, by rw [cy.K]; exact SqL.of m1.cl.top, atI_nat (by rw [List.getElem?_map, hq]; rfl), G1, Γ, m1.en, ?_⟩
          rw [e2]
          intro v2 G2 H2 g2 r2 _
          have m2 := m1.mono g2
          cases r2
          refine ⟨cq, _, jb, .int x, rfl, rfl, m2.cl.row ja cq r hq hr, by rw [List.getElem?_map, hx]; rfl, G2, Γ, m2.en, ?_⟩
          rw [e3]
          intro v3 G3 H3 g3 r3 _
          have m3 := m2.mono g3
          cases r3
          have hjb : jb < r.length := (List.getElem?_eq_some_iff.mp hx).1
          refine ⟨x, z, rfl, rfl, cq, _, (jb : Int), jb, rfl, rfl, m3.cl.row ja cq r hq hr, by rw [List.length_map]; unfold ixN; rw [if_pos (by omega), if_pos (by omega)]; simp, ?_⟩
          have m4 := m3.put (r' := r.set jb (x + z)) hq hr
          rw [List.map_set] at m4
          exact q σ G3 _ m4 ((g1.gg.trans g2.gg).trans g3.gg)
        · exact q.elim
      · exact q.elim
    · exact q.elim
  · exact q.elim
theorem reps_ints {K : PySem.W.Frag} {G : Hp} : ∀ r : List Int, Reps K G (r.map .int) (r.map .i)
  | [] => .nil
  | z :: r => .cons (.i z) (reps_ints r)
theorem reps_rows {K : PySem.W.Frag} {G : Hp} : ∀ (qs : List Addr) (M : Mx), qs.length = M.length → (∀ (j : Nat) (q : Addr) (r : List Int), qs[j]? = some q → M[j]? = some r → G q = some (.lst (r.map .int))) → Reps K G (qs.map .ref) (M.map rowD)
  | [], [], _, _ => .nil
  | [], _ :: _, h, _ => by cases h
  | _ :: _, [], h, _ => by cases h
  | q :: qs, r :: M, h, k => .cons (.l (k 0 q r rfl rfl) (reps_ints r)) (reps_rows qs M (by simpa using h) fun j q r h1 h2 => k (j + 1) q r h1 h2)
def mRet : FM := fun _ M => .rt M
theorem mm_ret {x : Str} {px : Pos} (hN : X.N[i]? = some x) (hv : Vis X.env.scope x) (hd : (x == ("__debug__" : Str)) = false := by decide) (hcd : (x == ("__classdict__" : Str)) = false := by decide) : PS X (.Return (some (.Name x px)) pos) (tM c i mRet) := by
  refine PS.weak (ps_ret (pe_var hN hv hd hcd)) ?_
  rintro D σ H ⟨p, qs, G, Γ, M, m, q⟩
  refine ⟨_, m.val, ?_⟩
  have nd := List.nodup_cons.mp m.cl.nd
  have nb : ∀ a, a ∈ qs → Non c.B a ∧ G a = none := fun a ha => m.cl.nb a (List.mem_cons_of_mem _ ha)
  have sm : Same G (fun a => if a ∈ qs then H a else G a) := fun a o e => by
    have : a ∉ qs := fun z => by rw [(nb a z).2] at e; cases e
    show (if a ∈ qs then H a else G a) = some o
    rw [if_neg this]; exact e
  refine q (.ref p) (fun a => if a ∈ qs then H a else G a) H ⟨m.en.bh, m.en.g0.trans sm, fun a o e => ?_, fun a o e n => ?_, fun a ps e => ?_, m.en.tb⟩ sm ⟨p, rfl, (m.cl.nb p List.mem_cons_self).1, ?_, .l m.cl.top (reps_rows qs M m.cl.len fun j q r h1 h2 => ?_)⟩
  · have e : (if a ∈ qs then H a else G a) = some o := e
    split at e
    · exact e
    · exact m.en.gh a o e
  · have e : (if a ∈ qs then H a else G a) = some o := e
    split at e
    · rename_i ha; exact absurd (nb a ha).1 n
    · exact m.en.gf a o e n
  · have e : (if a ∈ qs then H a else G a) = some (.tbl ps) := e
    split at e
    · rename_i ha
      obtain ⟨xs, ex⟩ := m.cl.at' (List.mem_cons_of_mem _ ha)
      rw [ex] at e; cases e
    · exact m.en.gt a ps e
  · show (if p ∈ qs then H p else G p) = none
    rw [if_neg nd.1]; exact (m.cl.nb p List.mem_cons_self).2
  · show (if q ∈ qs then H q else G q) = _
    rw [if_pos (List.mem_of_getElem? h1)]
    exact m.cl.row j q r h1 h2
def rowOf1 (t : Tg) (ft : FT) (fe : FE) (Γ0 : Env') (d : D) : Option (List Int) := match t.set d Γ0 with
  | some Γ1 => (match ft Γ1, fe Γ1 with | .ok true, .ok (.fr (.l ds)) => D.ints ds | _, _ => none)
  | none => none
def rowsOf (t : Tg) (ft : FT) (fe : FE) (Γ0 : Env') : List D → Option Mx
  | [] => some []
  | d :: ds => match rowOf1 t ft fe Γ0 d, rowsOf t ft fe Γ0 ds with | some r, some R => some (r :: R) | _, _ => none
theorem rowOf1_ok {t : Tg} {ft : FT} {fe : FE} {Γ0 : Env'} {d : D} {r : List Int} (h : rowOf1 t ft fe Γ0 d = some r) : ∃ Γ1, t.set d Γ0 = some Γ1 ∧ ft Γ1 = .ok true ∧ fe Γ1 = .ok (.fr (.l (r.map .i))) := by
  unfold rowOf1 at h
  split at h
  · rename_i Γ1 e
    split at h
    · rename_i ds e1 e2
      rw [D.ints_eq h] at e2
      exact ⟨Γ1, e, e1, e2⟩
    · cases h
  · cases h
structure NewC (K : PySem.W.Frag) (G H0 H : Hp) (Dd : Addr) (qs : List Addr) (M : Mx) : Prop where
  top : H Dd = some (.lst (qs.map .ref))
  nd : (Dd :: qs).Nodup
  len : qs.length = M.length
  row : ∀ (j : Nat) (q : Addr) (r : List Int), qs[j]? = some q → M[j]? = some r → H q = some (.lst (r.map .int))
  nb : ∀ q ∈ Dd :: qs, Non H0 q ∧ G q = none
theorem NewC.live {K : PySem.W.Frag} {G H0 H : Hp} {Dd q : Addr} {qs : List Addr} {M : Mx} (h : NewC K G H0 H Dd qs M) (hq : q ∈ Dd :: qs) : ¬ Non H q := by
  rcases List.mem_cons.mp hq with rfl | hq
  · exact live_of h.top
  · obtain ⟨j, hj, e⟩ := List.getElem_of_mem hq
    have hl := h.len
    exact live_of (h.row j q M[j] (by rw [List.getElem?_eq_getElem hj, e]) (List.getElem?_eq_getElem (by omega)))
theorem NewC.mono {K : PySem.W.Frag} {G H0 H G' H' : Hp} {Dd : Addr} {qs : List Addr} {M : Mx} (h : NewC K G H0 H Dd qs M) (g : Gr G H G' H') : NewC K G' H0 H' Dd qs M :=
  ⟨g.hh _ _ h.top (fun _ z => by cases z), h.nd, h.len, fun j q r h1 h2 => g.hh _ _ (h.row j q r h1 h2) (fun _ z => by cases z), fun q hq => ⟨(h.nb q hq).1, g.keepNone (h.nb q hq).2 (h.live hq)⟩⟩
theorem ints_ofV {K : PySem.W.Frag} {G : Hp} : ∀ {r : List Int} {xs : List V}, Reps K G xs (r.map .i) → xs = r.map .int
  | [], _, .nil => rfl
  | z :: r, _, .cons h t => by
    cases h
    rw [ints_ofV t]; rfl
theorem lc_mainM {t : Tg} {ft : FT} {fe : FE} {own : List Nat} {σ : St} {H : Hp} {Q : VK} {G : Hp} {Γ : Env'} {ds : List D} {R : Mx} (hix : ∀ j ∈ t.ix, j ∈ own) (he : EnvOk c G H σ Γ) (hl : rowsOf t ft fe (wipeG Γ own) ds = some R) (hz : R.length ≤ 16777216)
    (q : ∀ p qs G' H', Gr G H G' H' → NewC c.K G' H H' p qs R → Q (.ref p) H') {J : It} {G1 H1 : Hp} (g1 : Gr G H G1 H1) (w : WalkOk c.K G1 J ds) :
    ∀ D, H1 D = none → ∃ W : Nat → Nat → Hp → Prop, (∃ m, W 0 m (upd H1 D (.lst []))) ∧ ∀ i m H, W i m H →
      (J.stop i H ∧ Q (.ref D) H) ∨ (J.go i H ∧ ∃ Nx : Hp → Prop, (∀ H', Nx H' → ∃ m', m' < m ∧ W (i + 1) m' H') ∧ ∀ x H', J.yld i H x H' → t.tgt c.K x (wipe σ own) H' fun σ2 H2 => wipe σ2 own = wipe σ own ∧ tT c.calm ft σ2 H2 fun b H3 =>
        if b = true then tE c.calm fe σ2 H3 fun y H4 => ∃ acc, H4 D = some (.lst acc) ∧ acc.length < sizeLine ∧ Nx (upd H4 D (.lst (acc ++ [y]))) else Nx H3) := by
  intro D hD
  have hD0 : Non H D := Kept.non g1.hh (.of hD)
  have g1D : G1 D = none := g1.gh.free hD
  let Inv : Nat → Hp → Prop := fun i H' => ∃ Gi qs M rs, Gr G1 H1 Gi H' ∧ NewC c.K Gi H H' D qs M ∧ rowsOf t ft fe (wipeG Γ own) (ds.drop i) = some rs ∧ M ++ rs = R
  refine ⟨fun i m H' => m = ds.length - i ∧ i ≤ ds.length ∧ Inv i H', ⟨ds.length, by simp, Nat.zero_le _, G1, [], [], R, .own g1.gh hD, ⟨upd_same, by simp, rfl, fun j q r h1 _ => by simp at h1, fun q hq => by cases List.mem_singleton.mp hq; exact ⟨hD0, g1D⟩⟩, hl, rfl⟩, ?_⟩
  rintro i m H' ⟨rfl, hi, Gi, qs, M, rs, gi, nc, hr, hy⟩
  by_cases hlt : i < ds.length
  · obtain ⟨d, hd⟩ : ∃ d, ds[i]? = some d := ⟨ds[i], by simp [hlt]⟩
    have hdrop : ds.drop i = d :: ds.drop (i + 1) := by
      rw [List.drop_eq_getElem_cons hlt]
      congr 1
      simpa [hlt] using hd
    rw [hdrop] at hr
    obtain ⟨go, yl⟩ := w.go Gi H' gi.gg gi.gh i d hd
    refine .inr ⟨go, Inv (i + 1), fun H'' hn => ⟨ds.length - (i + 1), by omega, rfl, hlt, hn⟩, fun x H2 hyl => ?_⟩
    obtain ⟨G2, g2, r2⟩ := yl x H2 hyl
    unfold rowsOf at hr
    cases es : rowOf1 t ft fe (wipeG Γ own) d with
    | none => simp [es] at hr
    | some r =>
      cases er : rowsOf t ft fe (wipeG Γ own) (ds.drop (i + 1)) with
      | none => simp [es, er] at hr
      | some rs' =>
        simp only [es, er, Option.some.injEq] at hr
        obtain ⟨Γ1, et, hf, hfe⟩ := rowOf1_ok es
        have heW : EnvOk c G1 H1 (wipe σ own) (wipeG Γ own) := (he.mono g1).wipe own
        have he2 := (heW.mono gi).mono g2
        have nc2 := nc.mono g2
        refine Tg.ok he2 r2 et fun σ2 he3 hj => ⟨?_, G2, Γ1, he3.calm, ?_⟩
        · have l2 : σ2.length = (wipe σ own).length := by rw [he3.len, Tg.set_length et, he2.len]
          have e1 : wipe σ2 own = wipe (wipe σ own) own := wipe_in l2 own fun j hn => hj j fun z => hn (hix j z)
          have e2 : wipe (wipe σ own) own = wipe σ own := wipe_in (by rw [wipe_length]) own fun j hn => wipe_out hn
          rw [e1, e2]
        · rw [hf]
          intro G3 H3 g3
          rw [if_pos rfl]
          have nc3 := nc2.mono g3
          refine ⟨G3, Γ1, he3.calm.mono g3, ?_⟩
          rw [hfe]
          intro v G4 H4 g4 v4 fr4
          obtain ⟨a, rfl, nB, gN, o⟩ := v4
          obtain ⟨a', ea, nH⟩ := fr4
          cases ea
          have nc4 := nc3.mono g4
          have g0 := gi.trans (g2.trans (g3.trans g4))
          have na : a ∉ D :: qs := fun z => nc3.live z nH
          have hrow : H4 a = some (.lst (r.map .int)) := by
            cases o with
            | l w1 w2 => rw [ints_ofV w2] at w1; exact w1
          have nH0 : Non H a := Kept.non g1.hh (Kept.non gi.hh (Kept.non g2.hh (Kept.non g3.hh nH)))
          have hDa : D ≠ a := fun z => na (z ▸ List.mem_cons_self)
          refine ⟨_, nc4.top, ?_, G4, qs ++ [a], M ++ [r], rs', g0.put (.of hD) (nc4.nb D List.mem_cons_self).2 nc4.top ⟨fun _ z => (by cases z), fun _ z => (by cases z)⟩, ⟨by rw [upd_same, List.map_append]; rfl, ?_, by simp [nc4.len], fun j q r2 h1 h2 => ?_, fun q hq => ?_⟩, er, ?_⟩
          · rw [List.length_map, nc.len, sizeLine_eq]
            have := congrArg List.length hy
            rw [← hr] at this
            simp at this
            omega
          · rw [← List.cons_append, List.nodup_append]
            exact ⟨nc4.nd, by simp, fun x hx y hy e => by
              have : y = a := by simpa using hy
              subst this
              exact na (e ▸ hx)⟩
          · by_cases hjl : j < qs.length
            · rw [List.getElem?_append_left hjl] at h1
              rw [List.getElem?_append_left (by rw [← nc4.len]; exact hjl)] at h2
              have hne : q ≠ D := fun z => (List.nodup_cons.mp nc4.nd).1 (z ▸ List.mem_of_getElem? h1)
              rw [upd_ne hne]
              exact nc4.row j q r2 h1 h2
            · rw [List.getElem?_append_right (by omega)] at h1
              rw [List.getElem?_append_right (by rw [← nc4.len]; omega)] at h2
              have hj0 : j - qs.length = 0 := by
                have := (List.getElem?_eq_some_iff.mp h1).1
                simpa using this
              rw [hj0] at h1
              rw [← nc4.len, hj0] at h2
              cases h1
              cases h2
              rw [upd_ne (Ne.symm hDa)]
              exact hrow
          · rw [← List.cons_append] at hq
            rcases List.mem_append.mp hq with hq | hq
            · exact nc4.nb q hq
            · cases List.mem_singleton.mp hq
              exact ⟨nH0, gN⟩
          · rw [← hy, ← hr]; simp
  · have ei : i = ds.length := by omega
    subst ei
    rw [List.drop_length] at hr
    cases hr
    rw [List.append_nil] at hy
    subst hy
    exact .inl ⟨w.stop H' (gi.gg.trans gi.gh) _ (Nat.le_refl _), q D qs Gi H' (g1.trans gi) nc⟩
def outM : Fm → Option Mx
  | .rt M => some M | _ => none
open Classical in
noncomputable def sMat (i : Nat) (fi : FI) (t : Tg) (ft : FT) (fe : FE) (own : List Nat) (w : FM) : FS := fun Γ => match fi Γ with
  | .ok ds => (match rowsOf t ft fe (wipeG Γ own) ds with
    | some M => if h : i < Γ.length ∧ M.length ≤ 16777216 ∧ ∃ R : Mx, ∀ p : Addr, outM (w (Γ.set i (some (.sh (.o p)))) M) = some R then .rt (.fr (.l ((Classical.choose h.2.2).map rowD))) else .bad
    | none => .bad)
  | _ => .bad
theorem rs_mat (cy : Cy X c) {y : Str} {py : Pos} {elt iter : Expr} {ifs : List Expr} {scope : Scope} {own : List (Str × Nat)} {spos : Pos} {t : Tg} {fi : FI} {ft : FT} {fe : FE} (hy : X.N[i]? = some y) (hyl : X.env.scope.names.lookup y = some .local)
    (hsw : swapsWith (.ListComp elt [⟨tg, iter, ifs, 0⟩] scope pos) (some (.Name y py)) spos.line X.env = pure true) (hi : PI X tg iter (tI c fi)) (ok : BlkOk X.N X.env.scope scope own) (hix : ∀ j ∈ t.ix, j ∈ own.map (·.2))
    (hg : ∀ (s : Shared) (H : Hp) (C : Addr) (cl : List (Str × Addr)) (fp : List Addr), Cy (X.blk s H scope (compEnvC scope cl C X.env) fp) c.calm → PG (X.blk s H scope (compEnvC scope cl C X.env) fp) tg (t.tgt c.K))
    (ht : ∀ (s : Shared) (H : Hp) (C : Addr) (cl : List (Str × Addr)) (fp : List Addr), Cy (X.blk s H scope (compEnvC scope cl C X.env) fp) c.calm → PTs (X.blk s H scope (compEnvC scope cl C X.env) fp) ifs (tT c.calm ft))
    (hel : ∀ (s : Shared) (H : Hp) (C : Addr) (cl : List (Str × Addr)) (fp : List Addr), Cy (X.blk s H scope (compEnvC scope cl C X.env) fp) c.calm → PE (X.blk s H scope (compEnvC scope cl C X.env) fp) elt (tE c.calm fe))
    (hw : PSs X rest (tM c i w)) (hs : ∀ x, foldedSetIterable iter X.env x = pure x := by intro _; rfl) :
    PSs X (.Assign [.Name y py] (.ListComp elt [⟨tg, iter, ifs, 0⟩] scope pos) spos :: rest) (tS c (sMat i fi t ft fe (own.map (·.2)) w)) := by
  refine PSs.weak (pss_cons (ps_setLc cy.calm cy.nd hy hyl hsw hi ok (fun s H C cl fp => hg s H C cl fp (cy.blk ..)) (fun s H C cl fp => ht s H C cl fp (cy.blk ..)) (fun s H C cl fp => hel s H C cl fp (cy.blk ..)) hs) hw) ?_
  rintro D σ H ⟨G, Γ, he, q⟩
  unfold sMat at q
  refine ⟨G, Γ, he, ?_⟩
  cases ef : fi Γ with
  | bad => rw [ef] at q; exact q.elim
  | ex x => rw [ef] at q; exact q.elim
  | ok ds =>
    rw [ef] at q
    intro J G1 H1 g1 w1
    dsimp only at q
    cases er : rowsOf t ft fe (wipeG Γ (own.map (·.2))) ds with
    | none => rw [er] at q; exact q.elim
    | some M =>
      rw [er] at q
      dsimp only at q
      split at q
      · rename_i h
        obtain ⟨hil, hz, hR⟩ := h
        refine lc_mainM (Q := fun x H1 => gName i x σ H1 (fun σ' H' => tM c i w D σ' H')) hix he er hz (fun p qs G' H' g nc => ?_) g1 w1
        have out := Classical.choose_spec hR p
        generalize Classical.choose hR = R at q out
        have heS := (he.mono g).setSh i (Rep.o (K := c.K) (G := G') p)
        refine ⟨p, qs, G', _, M, ⟨heS, List.getElem?_set_self hil, ⟨nc.top, nc.nd, nc.len, nc.row, fun x hx => ⟨Kept.non he.bh (nc.nb x hx).1, (nc.nb x hx).2⟩⟩, fun j d a hj sj ha => ?_⟩, ?_⟩
        · rcases set_get hj with ⟨_, z, _⟩ | ⟨nj, hj⟩
          · cases z
          · rw [List.getElem?_set_ne (Ne.symm nj)] at sj
            obtain ⟨v, h1, h2, _⟩ := he.at' j _ hj
            rw [sj] at h1
            cases h1
            obtain ⟨a', ea, _, _, o⟩ := h2
            cases ea
            exact o.live (nc.nb a ha).1
        · cases ew : w (Γ.set i (some (.sh (.o p)))) M with
          | nx Γ' M' => rw [ew] at out; cases out
          | bad => rw [ew] at out; cases out
          | rt M' =>
            rw [ew] at out
            cases out
            exact fun v G'' H'' e s r => q v G'' H'' e (g.gg.trans s) r (fun _ z => by cases z)
      · exact q.elim
end
end Ly
end

section
set_option maxRecDepth 100000
set_option maxHeartbeats 1000000
namespace Ly
open PySem PySem.Spec L2
open PyProof.Rows hiding St
section
variable [Tb]
theorem rs_frzP {X : Cx} {c : LC} {st : Stmt} {u : FS} (i : Nat) (h : PS X st (tS c u)) : PS X st (tS c (sFrz i u)) := by
  refine PS.weak h ?_
  rintro D σ H ⟨G, Γ, he, q⟩
  obtain ⟨G', s, he'⟩ := he.frz i
  exact ⟨G', _, he', PostS.later s q⟩
end
section
variable {m : Nat} {L : Lk} {k k1 k2 k3 : Kd} {α β τ ω S : Type} {e : τ → D} {ea : α → D} {f g h : FE} {fi : FI} {u : FS} {v w : FM} {M : Mx} {P : ω → Fm → Prop} {i : Nat}
def RM {ω : Type} (P : ω → Fm → Prop) (T : Re ω) (r : Fm) : Prop := match T with | .ok a => P a r | _ => True
def BM {ω : Type} (m : Nat) (L : Lk) (M : Mx) (P : ω → Fm → Prop) (T : Re ω) (u : FM) : Prop := ∀ Γ, Ag m L Γ → RM P T (u Γ M)
def PNm (m : Nat) (Lo : S → Lk) (Mo : S → Mx) : S → Fm → Prop := fun s r => ∃ Γ', r = .nx Γ' (Mo s) ∧ Ag m (Lo s) Γ'
def PTm : Mx → Fm → Prop := fun M r => r = .rt M
theorem bm_nil {s : S} {Lo : S → Lk} {Mo : S → Mx} (hs : subL (Lo s) L) (hm : Mo s = M) : BM m L M (PNm m Lo Mo) (.ok s) mNil := fun Γ hΓ => ⟨Γ, by rw [hm]; rfl, hΓ.sub hs⟩
theorem bm_ret : BM m L M PTm (.ok M) mRet := fun _ _ => rfl
theorem bm_last {T : Re ω} (h : BM m L M P T (mSeq v mNil)) : BM m L M P T v := fun Γ hΓ => by
  have h1 := h Γ hΓ
  unfold mSeq at h1
  cases e : v Γ M with
  | nx Γ' M' => rw [e] at h1; exact h1
  | rt M' => rw [e] at h1; exact h1
  | bad => rw [e] at h1; exact h1
@[irreducible] def augT (M : Mx) (a b z : Int) : Re Mx := if 0 ≤ a ∧ 0 ≤ b then (match M[a.toNat]? with
  | some r => (match r[b.toNat]? with | some x => .ok (M.set a.toNat (r.set b.toNat (x + z))) | none => .bad)
  | none => .bad) else .bad
theorem bm_aug {x y z : Re Int} {K : Mx → Re ω} (hx : ER m L .sh eI x f) (hy : ER m L .sh eI y g) (hz : ER m L .sh eI z h) (hw : ∀ M', BM m L M' P (K M') w) : BM m L M P (x.bind fun a => y.bind fun b => z.bind fun c => (augT M a b c).bind K) (mSeq (mAug f g h) w) := fun Γ hΓ => by
  have h1 := hx Γ hΓ
  have h2 := hy Γ hΓ
  have h3 := hz Γ hΓ
  cases x with
  | ex _ => trivial
  | bad => trivial
  | ok a =>
    cases y with
    | ex _ => trivial
    | bad => trivial
    | ok b =>
      cases z with
      | ex _ => trivial
      | bad => trivial
      | ok c =>
        have h1 : f Γ = .ok (.sh (.i a)) := h1
        have h2 : g Γ = .ok (.sh (.i b)) := h2
        have h3 : h Γ = .ok (.sh (.i c)) := h3
        show RM P ((augT M a b c).bind K) _
        unfold augT
        unfold mSeq mAug
        rw [h1, h2, h3]
        dsimp only
        by_cases h0 : 0 ≤ a ∧ 0 ≤ b
        · rw [if_pos h0, if_pos h0]
          cases M[a.toNat]? with
          | none => trivial
          | some r =>
            dsimp only
            cases r[b.toNat]? with
            | none => trivial
            | some x => exact hw _ Γ hΓ
        · rw [if_neg h0]; trivial
theorem bm_lift {p : Addr} {Lo : S → Lk} {T : Re S} {K : S → Re ω} (hl : lk i L = some (.sh (.o p))) (hu : BG m L (PN m Lo) T u) (ho : ∀ s, lk i (Lo s) = some (.sh (.o p))) (hw : ∀ s, BM m (Lo s) M P (K s) w) : BM m L M P (T.bind K) (mSeq (mLift i u) w) := fun Γ hΓ => by
  have h1 := hu Γ hΓ
  cases T with
  | ex _ => trivial
  | bad => trivial
  | ok s =>
    obtain ⟨Γ', e, h2⟩ := h1
    have a1 := hΓ.at' i _ hl
    have a2 := h2.at' i _ (ho s)
    show RM P (K s) _
    unfold mSeq mLift
    rw [e]
    dsimp only
    rw [a1, a2]
    dsimp only
    rw [if_pos rfl]
    exact hw s Γ' h2
theorem forM_t {t : Tg} {en : α → Lk} {Lh : S → Lk} {Mh : S → Mx} {B : S → α → Re S} (ht : TgR m ea t en) (hb : ∀ s a, BM m (en a ++ Lh s) (Mh s) (PNm m Lh Mh) (B s a) v) : ∀ (as : List α) (s : S) (Γ : Env'), Ag m (Lh s) Γ → RM (PNm m Lh Mh) (forT B as s) (forM t v (as.map ea) Γ (Mh s))
  | [], s, Γ, hΓ => ⟨Γ, rfl, hΓ⟩
  | a :: as, s, Γ, hΓ => by
    obtain ⟨Γ1, h1, h2⟩ := ht _ a Γ hΓ
    have h3 := hb s a Γ1 h2
    rw [List.map_cons, forT_cons]
    unfold forM
    rw [h1]
    dsimp only
    cases eB : B s a with
    | ok s' =>
      rw [eB] at h3
      obtain ⟨Γ', h4, h5⟩ := h3
      rw [h4]
      exact forM_t ht hb as s' Γ' h5
    | ex z => trivial
    | bad => trivial
theorem bm_for {t : Tg} {en : α → Lk} {Lh : S → Lk} {Mh : S → Mx} {B : S → α → Re S} {x : Re (List α)} {s0 : S} {K : S → Re ω} (hi : IR m L ea x fi) (ht : TgR m ea t en) (hs : subL (Lh s0) L) (hm : Mh s0 = M) (hb : ∀ s a, BM m (en a ++ Lh s) (Mh s) (PNm m Lh Mh) (B s a) v) (hw : ∀ s, BM m (Lh s) (Mh s) P (K s) w) :
    BM m L M P (x.bind fun as => (forT B as s0).bind K) (mSeq (mFor fi t v) w) := fun Γ hΓ => by
  have h1 := hi Γ hΓ
  subst hm
  cases x with
  | ex _ => trivial
  | bad => trivial
  | ok as =>
    have h1 : fi Γ = .ok _ := h1
    have h2 := forM_t ht hb as s0 Γ (hΓ.sub hs)
    show RM P ((forT B as s0).bind K) _
    unfold mSeq mFor
    rw [h1]
    dsimp only
    cases eF : forT B as s0 with
    | ok s =>
      rw [eF] at h2
      obtain ⟨Γ', h3, h4⟩ := h2
      rw [h3]
      exact hw s Γ' h4
    | ex z => trivial
    | bad => trivial
theorem rows_t {t : Tg} {own : List Nat} {en : α → Lk} {y : α → Re (List Int)} {fe : FE} (ht : TgC m ea t own en) (hx : ∀ a, ER m (en a ++ L) .fr (eL eI) (y a) fe) {Γ : Env'} (hΓ : Ag m L Γ) : ∀ {as : List α} {R : Mx}, mapT y as = .ok R → rowsOf t tYesF fe (wipeG Γ own) (as.map ea) = some R
  | [], _, h => by cases h; rfl
  | a :: as, R, h => by
    unfold mapT at h
    cases e1 : y a with
    | ex z => rw [e1] at h; cases h
    | bad => rw [e1] at h; cases h
    | ok r =>
      rw [e1] at h
      dsimp only at h
      cases e2 : mapT y as with
      | ex z => rw [e2] at h; cases h
      | bad => rw [e2] at h; cases h
      | ok bs =>
        rw [e2] at h
        cases h
        obtain ⟨Γ1, h1, h2⟩ := ht L a Γ hΓ
        have h3 := hx a Γ1 h2
        rw [e1] at h3
        have h3 : fe Γ1 = .ok (.fr (.l (r.map .i))) := h3
        have er : rowOf1 t tYesF fe (wipeG Γ own) (ea a) = some r := by
          unfold rowOf1
          rw [h1]
          dsimp only
          rw [h3]
          show D.ints (r.map .i) = some r
          exact D.ints_map r
        rw [List.map_cons]
        unfold rowsOf
        rw [er, rows_t ht hx hΓ e2]
theorem bg_mat {t : Tg} {own : List Nat} {en : α → Lk} {y : α → Re (List Int)} {x : Re (List α)} {fe : FE} {K : Mx → Re Mx} (hi : IR m L ea x fi) (ht : TgC m ea t own en) (hx : ∀ a, ER m (en a ++ L) .fr (eL eI) (y a) fe) (him : i < m) (hw : ∀ (p : Addr) (M : Mx), BM m ((i, .sh (.o p)) :: L) M PTm (K M) w) :
    BG m L (PT .fr (eL (eL eI))) (nxT (x.bind fun as => (mapT y as).bind fun M => (lcP M).bind K)) (sMat i fi t tYesF fe own w) := fun Γ hΓ => by
  have h1 := hi Γ hΓ
  cases x with
  | ex _ => trivial
  | bad => trivial
  | ok as =>
    have h1 : fi Γ = .ok _ := h1
    show RS _ (nxT ((mapT y as).bind fun M => (lcP M).bind K)) _
    cases e2 : mapT y as with
    | ex _ => trivial
    | bad => trivial
    | ok M =>
      have h2 := rows_t ht hx hΓ e2
      show RS _ (nxT ((lcP M).bind K)) _
      by_cases hz : M.length ≤ 16777216
      · rw [lcP_ok hz]
        show RS _ (nxT (K M)) _
        cases e3 : K M with
        | ex _ => trivial
        | bad => trivial
        | ok R =>
          have h3 : ∀ p : Addr, outM (w (Γ.set i (some (.sh (.o p)))) M) = some R := fun p => by
            have h4 := hw p M _ (hΓ.set him (.sh (.o p)))
            rw [e3] at h4
            have h4 : w (Γ.set i (some (.sh (.o p)))) M = .rt R := h4
            rw [h4]; rfl
          show sMat i fi t tYesF fe own w Γ = .rt (.fr (.l (R.map (eL eI))))
          unfold sMat
          rw [h1]
          dsimp only
          rw [h2]
          dsimp only
          have hc : i < Γ.length ∧ M.length ≤ 16777216 ∧ ∃ R : Mx, ∀ p : Addr, outM (w (Γ.set i (some (.sh (.o p)))) M) = some R := ⟨by rw [hΓ.len]; exact him, hz, R, h3⟩
          rw [dif_pos hc]
          have h5 := Classical.choose_spec hc.2.2 0
          rw [h3 0] at h5
          rw [← Option.some.inj h5]
          rfl
      · have : lcP M = .bad := by unfold lcP; exact if_neg hz
        rw [this]; trivial
end
end Ly
end

section
set_option maxRecDepth 100000
set_option maxHeartbeats 1000000
namespace Ly
open PySem PySem.Spec L2
open PyProof.Rows hiding St
variable [Tb]
abbrev Mz := List (List D)
structure DCells (K : PySem.W.Frag) (B G H : Hp) (p : Addr) (qs : List Addr) (M : Mz) : Prop where
  top : H p = some (.lst (qs.map .ref))
  nd : (p :: qs).Nodup
  len : qs.length = M.length
  row : ∀ (j : Nat) (q : Addr) (r : List D), qs[j]? = some q → M[j]? = some r → ∃ xs, H q = some (.lst xs) ∧ Reps K G xs r
  nb : ∀ q ∈ p :: qs, Non B q ∧ G q = none
theorem DCells.at' {K : PySem.W.Frag} {B G H : Hp} {p q : Addr} {qs : List Addr} {M : Mz} (h : DCells K B G H p qs M) (hq : q ∈ p :: qs) : ∃ xs, H q = some (.lst xs) := by
  rcases List.mem_cons.mp hq with rfl | hq
  · exact ⟨_, h.top⟩
  · obtain ⟨j, hj, e⟩ := List.getElem_of_mem hq
    have hl := h.len
    obtain ⟨xs, h1, _⟩ := h.row j q M[j] (by rw [List.getElem?_eq_getElem hj, e]) (List.getElem?_eq_getElem (by omega))
    exact ⟨xs, h1⟩
theorem DCells.live {K : PySem.W.Frag} {B G H : Hp} {p q : Addr} {qs : List Addr} {M : Mz} (h : DCells K B G H p qs M) (hq : q ∈ p :: qs) : ¬ Non H q := by
  obtain ⟨xs, e⟩ := h.at' hq
  exact live_of e
theorem DCells.mono {K : PySem.W.Frag} {B G H G' H' : Hp} {p : Addr} {qs : List Addr} {M : Mz} (h : DCells K B G H p qs M) (g : Gr G H G' H') : DCells K B G' H' p qs M :=
  ⟨g.hh _ _ h.top (fun _ z => by cases z), h.nd, h.len, fun j q r h1 h2 => by
    obtain ⟨xs, h3, h4⟩ := h.row j q r h1 h2
    exact ⟨xs, g.hh _ _ h3 (fun _ z => by cases z), h4.mono g.gg⟩, fun q hq => ⟨(h.nb q hq).1, g.keepNone (h.nb q hq).2 (h.live hq)⟩⟩
def wthG (G H : Hp) (qs : List Addr) : Hp := fun a => if a ∈ qs then H a else G a
section
variable {K : PySem.W.Frag} {B G H : Hp} {p : Addr} {qs : List Addr} {M : Mz}
theorem DCells.sm (h : DCells K B G H p qs M) : Same G (wthG G H qs) := fun a o e => by
  have : a ∉ qs := fun z => by rw [(h.nb a (List.mem_cons_of_mem _ z)).2] at e; cases e
  show (if a ∈ qs then H a else G a) = some o
  rw [if_neg this]; exact e
theorem DCells.gh (h : DCells K B G H p qs M) (gh : Same G H) : Same (wthG G H qs) H := fun a o e => by
  have e : (if a ∈ qs then H a else G a) = some o := e
  split at e
  · exact e
  · exact gh a o e
theorem DCells.nt (h : DCells K B G H p qs M) (nt : NoT G) : NoT (wthG G H qs) := fun a ps e => by
  have e : (if a ∈ qs then H a else G a) = some (.tbl ps) := e
  split at e
  · rename_i ha
    obtain ⟨xs, ex⟩ := h.at' (List.mem_cons_of_mem _ ha)
    rw [ex] at e; cases e
  · exact nt a ps e
theorem DCells.top0 (h : DCells K B G H p qs M) : wthG G H qs p = none := by
  show (if p ∈ qs then H p else G p) = none
  rw [if_neg (List.nodup_cons.mp h.nd).1]; exact (h.nb p List.mem_cons_self).2
theorem reps_dl {G : Hp} : ∀ (qs : List Addr) (M : Mz), qs.length = M.length → (∀ (j : Nat) (q : Addr) (r : List D), qs[j]? = some q → M[j]? = some r → ∃ xs, G q = some (.lst xs) ∧ Reps K G xs r) → Reps K G (qs.map .ref) (M.map .l)
  | [], [], _, _ => .nil
  | [], _ :: _, h, _ => by cases h
  | _ :: _, [], h, _ => by cases h
  | q :: qs, r :: M, h, k => by
    obtain ⟨xs, h1, h2⟩ := k 0 q r rfl rfl
    exact .cons (.l h1 h2) (reps_dl qs M (by simpa using h) fun j q r h1 h2 => k (j + 1) q r h1 h2)
theorem DCells.reps (h : DCells K B G H p qs M) : Reps K (wthG G H qs) (qs.map .ref) (M.map .l) := reps_dl qs M h.len fun j q r h1 h2 => by
  obtain ⟨xs, h3, h4⟩ := h.row j q r h1 h2
  refine ⟨xs, ?_, h4.mono h.sm⟩
  show (if q ∈ qs then H q else G q) = _
  rw [if_pos (List.mem_of_getElem? h1)]; exact h3
theorem DCells.own (h : DCells K B G H p qs M) : Own K (wthG G H qs) H p (.l (M.map .l)) := .l h.top h.reps
theorem DCells.gr {G0 : Hp} (h : DCells K B G H p qs M) (g : Gr G0 B G H) : Gr G0 B (wthG G H qs) H :=
  ⟨g.hh, g.gg.trans h.sm, h.gh g.gh, fun a o e n => by
    have e : (if a ∈ qs then H a else G a) = some o := e
    split at e
    · rename_i ha; exact absurd (h.nb a (List.mem_cons_of_mem _ ha)).1 n
    · exact g.nw a o e n, fun nt => h.nt (g.gt nt), g.tb⟩
end
def spD (K : PySem.W.Frag) (mg : Str → Option Value) (n : Nat) (F : List D → Re Rv) : Sp := fun vs H Q E => ∃ G ds, ds.length = n ∧ Ok0 G H ∧ Reps K G vs ds ∧
  match F ds with
  | .ok (.sh d) => ∀ v G' H', Gr G H G' H' → Rep K G' v d → Q v H'
  | .ok (.fr (.l rs)) => ∀ p qs M G' H', rs = M.map .l → Gr G H G' H' → DCells K H G' H' p qs M → Q (.ref p) H'
  | .ok (.fr d) => ∀ p G' H', Gr G H G' H' → Non H p → G' p = none → Own K G' H' p d → Q (.ref p) H'
  | .ex e => ∀ G' H', Gr G H G' H' → ExAt ⟨K, mg, H, G, fun _ _ _ _ => True⟩ E e G' H'
  | _ => False
structure DefOkD (P : Program) (w : World) (K : PySem.W.Frag) (mg : Str → Option Value) (base : Heap) (k : Nat) (x : Str) (n : Nat) (F : List D → Re Rv) : Prop where
  ex : ∃ (f : Addr) (fd : FuncData) (ps : List Str), mg x = some (.ref f) ∧ PySem.W.keepIn K (.ref f) = true ∧ Binds K fd ps [] ∧ FnOk P w K mg base (L2N.CX P w) k f fd ps (spD K mg n F)
theorem spF_D {K : PySem.W.Frag} {mg : Str → Option Value} {n : Nat} {F : List D → Re Rv} {vs : List V} {H : Hp} {Q : VK} {E : XK} (h : spF K mg n F vs H Q E) : spD K mg n F vs H Q E := by
  obtain ⟨G, ds, hl, ok, r, q⟩ := h
  refine ⟨G, ds, hl, ok, r, ?_⟩
  cases e : F ds with
  | bad => rw [e] at q; exact q
  | ex x => rw [e] at q; exact q
  | ok rv =>
    rw [e] at q
    cases rv with
    | sh d => exact q
    | bo d => exact q
    | fr d =>
      cases d with
      | l rs => exact fun p qs M G' H' er g c => q p (wthG G' H' qs) H' (c.gr g) (c.nb p List.mem_cons_self).1 c.top0 (er ▸ c.own)
      | _ => exact q
theorem fnok_weak {P : Program} {w : World} {K : PySem.W.Frag} {mg : Str → Option Value} {base : Heap} {CX : _} {k : Nat} {f : Addr} {fd : FuncData} {ps : List Str} {sp sp' : Sp} (h : FnOk P w K mg base CX k f fd ps sp) (i : ∀ vs H Q E, sp' vs H Q E → sp vs H Q E) : FnOk P w K mg base CX k f fd ps sp' :=
  ⟨fun vs H Q E q => h.1 vs H Q E (i _ _ _ _ q), fun A outer s H args us vs Q E a b c d q => h.2 A outer s H args us vs Q E a b c d (i _ _ _ _ q)⟩
theorem DefOkD.ok {P : Program} {w : World} {K : PySem.W.Frag} {mg : Str → Option Value} {base : Heap} {k : Nat} {x : Str} {n : Nat} {F : List D → Re Rv} (h : DefOkD P w K mg base k x n F) : DefOk P w K mg base k x n F := by
  obtain ⟨f, fd, ps, h1, h2, h3, h4⟩ := h.ex
  exact ⟨f, fd, ps, h1, h2, h3, fnok_weak h4 fun _ _ _ _ q => spF_D q⟩
structure PostD (c : LC) (r : Fl) (G : Hp) (D : Ends) : Prop where
  deep : ∀ rs, r = .rt (.fr (.l rs)) → ∀ p qs M G' H', rs = M.map .l → EndOk c G' H' → Same G G' → DCells c.K c.B G' H' p qs M → D.rt (.ref p) H'
  els : (∀ rs, r ≠ .rt (.fr (.l rs))) → PostS c r G D
def tD (c : LC) (f : FS) : TS := fun D σ H => ∃ G Γ, EnvOk c G H σ Γ ∧ PostD c (f Γ) G D
def sSeqD (u w : FS) : FS := fun Γ => match u Γ with | .nx Γ' => w Γ' | .ex e Γ' => .ex e Γ' | _ => .bad
theorem PostD.later {c : LC} {r : Fl} {G G1 : Hp} {D : Ends} (g : Same G G1) (h : PostD c r G D) : PostD c r G1 D :=
  ⟨fun rs e p qs M G' H' a b s => h.deep rs e p qs M G' H' a b (g.trans s), fun n => PostS.later g (h.els n)⟩
section
variable {X : Cx} {c : LC} {i : Nat} {st : Stmt} {rest body : List Stmt} {tg it e : Expr} {pos : Pos}
theorem td_cons {u w : FS} (h1 : PS X st (tS c u)) (h2 : PSs X rest (tD c w)) : PSs X (st :: rest) (tD c (sSeqD u w)) := by
  refine PSs.weak (pss_cons h1 h2) ?_
  rintro D σ H ⟨G, Γ, en, q⟩
  refine ⟨G, Γ, en, ?_⟩
  unfold sSeqD at q
  cases e : u Γ with
  | nx Γ' => rw [e] at q; exact fun σ' G' H' e' s => ⟨G', Γ', e', PostD.later s q⟩
  | ex x Γ' => rw [e] at q; exact q.els fun _ z => by cases z
  | bk Γ' => rw [e] at q; exact (q.els fun _ z => by cases z).elim
  | ct Γ' => rw [e] at q; exact (q.els fun _ z => by cases z).elim
  | rt r => rw [e] at q; exact (q.els fun _ z => by cases z).elim
  | bad => rw [e] at q; exact (q.els fun _ z => by cases z).elim
structure DatOk (c : LC) (i : Nat) (p : Addr) (qs : List Addr) (G H : Hp) (σ : St) (Γ : Env') (M : Mz) : Prop where
  en : EnvOk c G H σ Γ
  slot : Γ[i]? = some (some (.sh (.o p)))
  cl : DCells c.K c.B G H p qs M
  sp : ∀ (j : Nat) (d : D) (a : Addr), Γ[j]? = some (some (.fr d)) → σ[j]? = some (some (.ref a)) → a ∉ p :: qs
theorem DatOk.mono {p : Addr} {qs : List Addr} {G H G' H' : Hp} {σ : St} {Γ : Env'} {M : Mz} (m : DatOk c i p qs G H σ Γ M) (g : Gr G H G' H') : DatOk c i p qs G' H' σ Γ M := ⟨m.en.mono g, m.slot, m.cl.mono g, m.sp⟩
theorem DatOk.val {p : Addr} {qs : List Addr} {G H : Hp} {σ : St} {Γ : Env'} {M : Mz} (m : DatOk c i p qs G H σ Γ M) : σ[i]? = some (some (.ref p)) := by
  obtain ⟨v, h1, h2, _⟩ := m.en.at' i _ m.slot
  cases h2
  exact h1
inductive Fn where
  | nx (Γ : Env') (M : Mz) | rt (M : Mz) | bad
abbrev FN := Env' → Mz → Fn
def PostZ (c : LC) (i : Nat) (p : Addr) (r : Fn) (G : Hp) (D : Ends) : Prop := match r with
  | .nx Γ' M' => ∀ σ' qs G' H', DatOk c i p qs G' H' σ' Γ' M' → Same G G' → D.nx σ' H'
  | .rt M' => ∀ qs G' H', EndOk c G' H' → Same G G' → DCells c.K c.B G' H' p qs M' → D.rt (.ref p) H'
  | .bad => False
def tZ (c : LC) (i : Nat) (f : FN) : TS := fun D σ H => ∃ p qs G Γ M, DatOk c i p qs G H σ Γ M ∧ PostZ c i p (f Γ M) G D
theorem PostZ.later {p : Addr} {r : Fn} {G G1 : Hp} {D : Ends} (g : Same G G1) (h : PostZ c i p r G D) : PostZ c i p r G1 D := by
  cases r with
  | nx Γ M => exact fun σ' qs G' H' e s => h σ' qs G' H' e (g.trans s)
  | rt M => exact fun qs G' H' e s => h qs G' H' e (g.trans s)
  | bad => exact h
variable {u w : FN}
def zNil : FN := fun Γ M => .nx Γ M
theorem mz_nil : PSs X [] (tZ c i zNil) := PSs.weak pss_nil fun D σ H ⟨p, qs, G, Γ, M, m, q⟩ => q σ qs G H m (Same.refl _)
def zSeq (u w : FN) : FN := fun Γ M => match u Γ M with | .nx Γ' M' => w Γ' M' | o => o
theorem mz_cons (h1 : PS X st (tZ c i u)) (h2 : PSs X rest (tZ c i w)) : PSs X (st :: rest) (tZ c i (zSeq u w)) := by
  refine PSs.weak (pss_cons h1 h2) ?_
  rintro D σ H ⟨p, qs, G, Γ, M, m, q⟩
  refine ⟨p, qs, G, Γ, M, m, ?_⟩
  unfold zSeq at q
  cases e : u Γ M with
  | nx Γ' M' => rw [e] at q; exact fun σ' qs' G' H' m' s => ⟨p, qs', G', Γ', M', m', PostZ.later s q⟩
  | rt M' => rw [e] at q; exact q
  | bad => rw [e] at q; exact q.elim
def forZ (t : Tg) (u : FN) : List D → FN
  | [], Γ, M => .nx Γ M
  | d :: ds, Γ, M => match t.set d Γ with
    | some Γ1 => (match u Γ1 M with | .nx Γ' M' => forZ t u ds Γ' M' | o => o)
    | none => .bad
def zFor (fi : FI) (t : Tg) (u : FN) : FN := fun Γ M => match fi Γ with
  | .ok ds => forZ t u ds Γ M | _ => .bad
theorem for_loopZ {p : Addr} {qs : List Addr} {M : Mz} {J : It} {ds : List D} {t : Tg} {G1 H1 : Hp} {σ : St} {Γ : Env'} {D : Ends} (hi' : i ∉ t.ix) (m0 : DatOk c i p qs G1 H1 σ Γ M) (w : WalkOk c.K G1 J ds) (q : PostZ c i p (forZ t u ds Γ M) G1 D) :
    ∃ W : Nat → Nat → St → Hp → Prop, (∃ m, W 0 m σ H1) ∧ ∀ k m σ H, W k m σ H → (J.stop k H ∧ D.nx σ H) ∨ (J.go k H ∧ ∃ N : St → Hp → Prop, (∀ σ' H', N σ' H' → ∃ m', m' < m ∧ W (k + 1) m' σ' H') ∧
      ∀ x H', J.yld k H x H' → t.tgt c.K x σ H' fun σ2 H2 => tZ c i u { D with nx := N, ct := N, bk := D.nx } σ2 H2) := by
  refine ⟨fun k m σ' H' => m = ds.length - k ∧ k ≤ ds.length ∧ ∃ qi Gi Γi Mi, DatOk c i p qi Gi H' σ' Γi Mi ∧ Same G1 Gi ∧ PostZ c i p (forZ t u (ds.drop k) Γi Mi) Gi D,
    ⟨ds.length, by simp, Nat.zero_le _, qs, G1, Γ, M, m0, Same.refl _, q⟩, ?_⟩
  rintro k m σ' H' ⟨rfl, hk, qi, Gi, Γi, Mi, mi, si, ci⟩
  by_cases hl : k < ds.length
  · obtain ⟨d, hd⟩ : ∃ d, ds[k]? = some d := ⟨ds[k], by simp [hl]⟩
    have hdrop : ds.drop k = d :: ds.drop (k + 1) := by
      rw [List.drop_eq_getElem_cons hl]
      congr 1
      simpa [hl] using hd
    rw [hdrop] at ci
    obtain ⟨go, yl⟩ := w.go Gi H' si mi.en.gh k d hd
    refine .inr ⟨go, fun σ'' H'' => ∃ qj Gj Γj Mj, DatOk c i p qj Gj H'' σ'' Γj Mj ∧ Same G1 Gj ∧ PostZ c i p (forZ t u (ds.drop (k + 1)) Γj Mj) Gj D,
      fun σ'' H'' ⟨qj, Gj, Γj, Mj, mj, sj, cj⟩ => ⟨ds.length - (k + 1), by omega, rfl, hl, qj, Gj, Γj, Mj, mj, sj, cj⟩, fun x H2 hy => ?_⟩
    obtain ⟨G2, g2, r2⟩ := yl x H2 hy
    have m2 := mi.mono g2
    unfold forZ at ci
    cases et : t.set d Γi with
    | none => rw [et] at ci; exact ci.elim
    | some Γ1 =>
      rw [et] at ci
      refine Tg.ok m2.en r2 et fun σ2 he3 hs3 => ?_
      have s2 : Same G1 G2 := si.trans g2.gg
      have m3 : DatOk c i p qi G2 H2 σ2 Γ1 Mi := ⟨he3, by rw [tset_out et hi']; exact m2.slot, m2.cl, fun j x a hj sj => by
        obtain ⟨n1, n2⟩ := tset_fr et hj
        rw [hs3 j n1] at sj
        exact m2.sp j x a n2 sj⟩
      refine ⟨p, qi, G2, Γ1, Mi, m3, ?_⟩
      have ci : PostZ c i p (match u Γ1 Mi with | .nx Γ' M' => forZ t u (ds.drop (k + 1)) Γ' M' | o => o) G2 D := PostZ.later g2.gg ci
      cases eu : u Γ1 Mi with
      | nx Γ' M' => rw [eu] at ci; exact fun σ3 q3 G3 H3 he4 s3 => ⟨q3, G3, Γ', M', he4, s2.trans s3, PostZ.later s3 ci⟩
      | rt r => rw [eu] at ci; exact ci
      | bad => rw [eu] at ci; exact ci
  · have ei : k = ds.length := by omega
    subst ei
    refine .inl ⟨w.stop H' (si.trans mi.en.gh) _ (Nat.le_refl _), ?_⟩
    rw [List.drop_length] at ci
    exact ci σ' qi Gi H' mi (Same.refl _)
theorem mz_for (hp : PassesOwn (model X.prog X.w) X.A X.env X.xe) (cy : Cy X c) {fi : FI} {t : Tg} (hi' : i ∉ t.ix) (hi : PI X tg it (tI c fi)) (hg : PG X tg (t.tgt c.K)) (hb : PSs X body (tZ c i u))
    (hs : ∀ y, foldedSetIterable it X.env y = pure y := by intro _; rfl) : PS X (.For tg it body [] pos) (tZ c i (zFor fi t u)) := by
  refine PS.weak (ps_for hp cy.calm hi hg hb hs) ?_
  rintro D σ H ⟨p, qs, G, Γ, M, m, q⟩
  unfold zFor at q
  refine ⟨G, Γ, m.en, ?_⟩
  cases e : fi Γ with
  | ok ds =>
    rw [e] at q
    intro J G1 H1 g1 w
    exact for_loopZ hi' (m.mono g1) w (PostZ.later g1.gg q)
  | ex x => rw [e] at q; exact q.elim
  | bad => rw [e] at q; exact q.elim
def zApp (fe : FE) : FN := fun Γ M => match fe Γ with
  | .ok (.fr (.l r)) => if M.length < 16777216 then .nx Γ (M ++ [r]) else .bad
  | _ => .bad
theorem DatOk.app {p a : Addr} {qs : List Addr} {G H : Hp} {σ : St} {Γ : Env'} {M : Mz} {r : List D} {xs : List V} (m : DatOk c i p qs G H σ Γ M) (nB : Non c.B a) (gN : G a = none) (ha : H a = some (.lst xs)) (hr : Reps c.K G xs r) (na : a ∉ p :: qs) (sp : ∀ (j : Nat) (d : D) (b : Addr), Γ[j]? = some (some (.fr d)) → σ[j]? = some (some (.ref b)) → b ≠ a) : DatOk c i p (qs ++ [a]) G (upd H p (.lst (qs.map .ref ++ [.ref a]))) σ Γ (M ++ [r]) := by
  have en := m.en
  obtain ⟨pB, pG⟩ := m.cl.nb p List.mem_cons_self
  have pa : p ≠ a := fun z => na (z ▸ List.mem_cons_self)
  refine ⟨⟨Kept.upd en.bh pB, en.g0, fun b o e => ?_, en.gf, en.gt, tabs_put en.tb m.cl.top ⟨fun _ z => (by cases z), fun _ z => (by cases z)⟩, en.len, fun k rv hk => ?_, en.sep⟩, m.slot, ⟨?_, ?_, by simp [m.cl.len], fun k q r2 h1 h2 => ?_, fun q hq => ?_⟩, fun j d b hj sj hb => ?_⟩
  · have : b ≠ p := fun z => by rw [z, pG] at e; cases e
    rw [upd_ne this]; exact en.gh b o e
  · obtain ⟨v, h1, h2, h3⟩ := en.at' k rv hk
    refine ⟨v, h1, ?_, h3⟩
    cases rv with
    | sh d => exact h2
    | fr d =>
      obtain ⟨b, rfl, n, g, o⟩ := h2
      have hb : b ≠ p := fun z => m.sp k d b hk h1 (z ▸ List.mem_cons_self)
      refine ⟨b, rfl, n, g, ?_⟩
      cases o with
      | l w1 w2 => exact .l (by rw [upd_ne hb]; exact w1) w2
      | dk w1 w2 w3 => exact .dk (by rw [upd_ne hb]; exact w1) w2 w3
      | dt w1 w2 w3 => exact .dt (by rw [upd_ne hb]; exact w1) w2 w3
    | bo d => exact absurd rfl (h3 d)
  · rw [upd_same, List.map_append]; rfl
  · rw [← List.cons_append, List.nodup_append]
    exact ⟨m.cl.nd, by simp, fun x hx y hy e => by
      have : y = a := by simpa using hy
      subst this
      exact na (e ▸ hx)⟩
  · by_cases hk : k < qs.length
    · rw [List.getElem?_append_left hk] at h1
      rw [List.getElem?_append_left (by rw [← m.cl.len]; exact hk)] at h2
      have hne : q ≠ p := fun z => (List.nodup_cons.mp m.cl.nd).1 (z ▸ List.mem_of_getElem? h1)
      rw [upd_ne hne]
      exact m.cl.row k q r2 h1 h2
    · rw [List.getElem?_append_right (by omega)] at h1
      rw [List.getElem?_append_right (by rw [← m.cl.len]; omega)] at h2
      have hk0 : k - qs.length = 0 := by
        have := (List.getElem?_eq_some_iff.mp h1).1
        simpa using this
      rw [hk0] at h1
      rw [← m.cl.len, hk0] at h2
      cases h1
      cases h2
      rw [upd_ne (Ne.symm pa)]
      exact ⟨xs, ha, hr⟩
  · rw [← List.cons_append] at hq
    rcases List.mem_append.mp hq with hq | hq
    · exact m.cl.nb q hq
    · cases List.mem_singleton.mp hq
      exact ⟨nB, gN⟩
  · rw [← List.cons_append] at hb
    rcases List.mem_append.mp hb with hb | hb
    · exact m.sp j d b hj sj hb
    · exact sp j d b hj sj (List.mem_singleton.mp hb)
theorem mz_app {x : Str} {px apos cpos : Pos} {fe : FE} (hN : X.N[i]? = some x) (hv : Vis X.env.scope x) (ha : PE X e (tE c fe))
    (hd : (x == ("__debug__" : Str)) = false := by decide) (hcd : (x == ("__classdict__" : Str)) = false := by decide)
    (hsw : swapsWith (.Call (.Attribute (.Name x px) "append" apos) [e] [] cpos) none pos.line X.env = pure false := by rfl)
    (hbase : attributeBase (.Name x px) "append" X.env (eval (.Name x px) X.env) = eval (.Name x px) X.env := by rfl)
    (hfew : ((backTo cpos (starEach [e] X.env)).all (fun x => !x.1) && (backToKw cpos (keywordEach [] X.env)).all (fun x => x.1.isSome)
      && decide ([e].length + ([] : List Keyword).length + (if ([] : List Keyword).isEmpty then 0 else 1) < 30)) = true := by rfl)
    (hline : (apos.endLine == cpos.line) = true := by rfl) (hs : starEach [e] X.env = [(false, eval e X.env)] := by rfl) :
    PS X (.Expr (.Call (.Attribute (.Name x px) "append" apos) [e] [] cpos) pos) (tZ c i (zApp fe)) := by
  refine PS.weak (ps_expr (pe_bm PySem.F.plainAttrs_list PySem.F.slot_list_append PySem.F.type_list_append mt_append (pe_var hN hv hd hcd) (pa_cons ha pa_nil hs) hbase hfew hline hs) hsw) ?_
  rintro D σ H ⟨p, qs, G, Γ, M, m, q⟩
  unfold zApp at q
  split at q
  · rename_i r er
    split at q
    · rename_i hl
      refine ⟨_, m.val, .inl ⟨rfl, _, SqL.of m.cl.top⟩, G, Γ, m.en, ?_⟩
      rw [er]
      intro v G1 H1 g1 v1 fr1
      obtain ⟨a, rfl, nB, gN, o⟩ := v1
      obtain ⟨a', ea, nH⟩ := fr1
      cases ea
      have m1 := m.mono g1
      cases o with
      | @l xs _ w1 w2 =>
        refine ⟨p, _, .ref a, rfl, rfl, m1.cl.top, by rw [List.length_map, m1.cl.len, sizeLine_eq]; exact hl, ?_⟩
        refine q σ (qs ++ [a]) G1 _ (m1.app nB gN w1 w2 (fun z => m.cl.live z nH) fun j d b hj sj z => ?_) g1.gg
        obtain ⟨v', h1, h2, _⟩ := m.en.at' j _ hj
        rw [sj] at h1
        cases h1
        obtain ⟨b', eb, _, _, ob⟩ := h2
        cases eb
        exact ob.live (z ▸ nH)
    · exact q.elim
  · exact q.elim
def zRet : FN := fun _ M => .rt M
theorem mz_ret {x : Str} {px : Pos} (hN : X.N[i]? = some x) (hv : Vis X.env.scope x) (hd : (x == ("__debug__" : Str)) = false := by decide) (hcd : (x == ("__classdict__" : Str)) = false := by decide) : PS X (.Return (some (.Name x px)) pos) (tZ c i zRet) := by
  refine PS.weak (ps_ret (pe_var hN hv hd hcd)) ?_
  rintro D σ H ⟨p, qs, G, Γ, M, m, q⟩
  exact ⟨_, m.val, q qs G H m.en.end (Same.refl _) m.cl⟩
def outZ : Fn → Option Mz
  | .rt M => some M | _ => none
open Classical in
noncomputable def sDeep (i : Nat) (w : FN) : FS := fun Γ => if h : i < Γ.length ∧ ∃ R : Mz, ∀ p : Addr, outZ (w (Γ.set i (some (.sh (.o p)))) []) = some R then .rt (.fr (.l ((Classical.choose h.2).map .l))) else .bad
theorem td_deep (cy : Cy X c) {x : Str} {px : Pos} (hi : X.N[i]? = some x) (hx : Loc X.env.scope x) (ha : PE X e (tE c (eLst aNil))) (hw : PSs X rest (tZ c i w))
    (hs : swapsWith e (some (.Name x px)) pos.line X.env = pure false := by rfl) (hf : X.fn x = true ∨ X.env.scope.names.lookup x = some .local := by first | exact .inl rfl | exact .inr rfl) :
    PSs X (.Assign [.Name x px] e pos :: rest) (tD c (sDeep i w)) := by
  refine PSs.weak (pss_cons (ps_set cy.nd hi hx ha hs hf) hw) ?_
  rintro D σ H ⟨G, Γ, he, q⟩
  unfold sDeep at q
  split at q
  · rename_i h
    obtain ⟨hil, hR⟩ := h
    refine ⟨G, Γ, he, ?_⟩
    show Post c (eLst aNil Γ) σ G H _
    intro v G1 H1 g1 v1 fr1
    obtain ⟨p, rfl, nB, gN, o⟩ := v1
    have out := Classical.choose_spec hR p
    generalize Classical.choose hR = R at q out
    have heS := (he.mono g1).setSh i (Rep.o (K := c.K) (G := G1) p)
    obtain ⟨p', ep, nH⟩ := fr1
    cases ep
    cases o with
    | @l xs _ w1 w2 =>
      cases w2
      refine ⟨p, [], G1, _, [], ⟨heS, List.getElem?_set_self hil, ⟨w1, by simp, rfl, fun j q r h1 _ => by simp at h1, fun q hq => by cases List.mem_singleton.mp hq; exact ⟨nB, gN⟩⟩, fun j d a hj sj hb => ?_⟩, ?_⟩
      · rcases set_get hj with ⟨_, z, _⟩ | ⟨nj, hj⟩
        · cases z
        · rw [List.getElem?_set_ne (Ne.symm nj)] at sj
          obtain ⟨v', h1, h2, _⟩ := he.at' j _ hj
          rw [sj] at h1
          cases h1
          obtain ⟨b', eb, _, _, ob⟩ := h2
          cases eb
          exact ob.live ((List.mem_singleton.mp hb) ▸ nH)
      · cases ew : w (Γ.set i (some (.sh (.o p)))) [] with
        | nx Γ' M' => rw [ew] at out; cases out
        | bad => rw [ew] at out; cases out
        | rt M' =>
          rw [ew] at out
          cases out
          exact fun qs G'' H'' e' s dc => q.deep _ rfl p qs _ G'' H'' rfl e' (g1.gg.trans s) dc
  · exact (q.els fun _ z => by cases z).elim
end
section
variable {P : Program} {w : World} {K : PySem.W.Frag} {mg : Str → Option Value} {base : Heap}
theorem def_fnZ {x qual : Str} {st : Stmt} {f : Addr} {fd : FuncData} {N ps : List Str} {k n m : Nat} {body : FS} (F : Fun K x qual st f fd) (S : FnScope N ps (defScope st))
    (hn : ps.length = n) (hN : N.length = m)
    (h : ∀ (cdv : Value) (A : Around) (outer : List Env) (s : Shared) (H G : Hp) (E : XK), Room k (A.deeper (envOfC qual (defScope st) s.heap.objs.size f cdv)) →
      Cy (cxOf (L2N.CX P w) P w K mg base N qual (defScope st) f cdv A outer s H E) (dLc K mg H G E) →
      PassesOwn (model P w) (A.deeper (envOfC qual (defScope st) s.heap.objs.size f cdv)) (envOfC qual (defScope st) s.heap.objs.size f cdv) (cxOf (L2N.CX P w) P w K mg base N qual (defScope st) f cdv A outer s H E).xe →
      PSs (cxOf (L2N.CX P w) P w K mg base N qual (defScope st) f cdv A outer s H E) (defBody st) (tD (dLc K mg H G E) body)) : FnOk P w K mg base (L2N.CX P w) (k + 1) f fd ps (spD K mg n (runF n m body)) := by
  refine fun_okN F S (fun vs H Q E hs => ?_) (fun cdv A outer s H vs Q E hr hs => ?_)
  · obtain ⟨G, ds, hl, gh, r, _⟩ := hs
    rw [r.length, hl, hn]
  · obtain ⟨G, ds, hl, gh, r, q⟩ := hs
    have cy : Cy (cxOf (L2N.CX P w) P w K mg base N qual (defScope st) f cdv A outer s H E) (dLc K mg H G E) := ⟨rfl, rfl, L2N.takes_of rfl rfl rfl rfl, rfl, S.nd, hr.units⟩
    refine ⟨_, h cdv A outer s H G E hr cy (passes_of (X := cxOf (L2N.CX P w) P w K mg base N qual (defScope st) f cdv A outer s H E) rfl), G, _, start_env gh r, ?_⟩
    have gr : ∀ {G' H' : Hp}, EndOk (dLc K mg H G E) G' H' → Gr G H G' H' := fun e => ⟨e.bh, e.g0, e.gh, e.gf, fun _ => e.gt, fun _ => e.tb⟩
    unfold runF at q
    rw [if_pos hl] at q
    rw [hN, hl]
    cases eb : body (ds.map (fun d => some (.sh d)) ++ List.replicate (m - n) none) with
    | nx Γ' => rw [eb] at q; exact ⟨fun _ z => (by cases z), fun _ σ' G' H' he s => q .non G' H' (gr he.end) .n⟩
    | rt rv =>
      rw [eb] at q
      cases rv with
      | sh d => exact ⟨fun _ z => (by cases z), fun _ v G' H' he s hv _ => q v G' H' (gr he) hv⟩
      | fr d =>
        refine ⟨fun rs e p qs M G' H' er he s dc => ?_, fun n => ?_⟩
        · cases e
          exact q p qs M G' H' er (gr he) dc
        · cases d with
          | l rs => exact absurd rfl (n rs)
          | _ => exact fun v G' H' he s ⟨p, e, bp, gp, o⟩ _ => by subst e; exact q p G' H' (gr he) bp gp o
      | bo d => exact ⟨fun _ z => (by cases z), fun _ v G' H' he s hv hn => absurd rfl (hn d)⟩
    | ex e Γ' => rw [eb] at q; exact ⟨fun _ z => (by cases z), fun _ σ' G' H' he s C d hC hd => q G' H' (gr he.end) C d hC hd⟩
    | bk Γ' => rw [eb] at q; exact q.elim
    | ct Γ' => rw [eb] at q; exact q.elim
    | bad => rw [eb] at q; exact q.elim
end
section
variable {X : Cx} {c : LC} {e : Expr} {es : List Expr} {fa : FA} {pos : Pos}
def eCallD (n : Nat) (F : List D → Re Rv) (fa : FA) : FE := fun Γ => (fa Γ).bind fun ds => if ds.length = n then (match F ds with
  | .ok (.fr (.l rs)) => if (rs.all fun d => match d with | .l _ => true | _ => false) = true then .ok (.fr (.l rs)) else .bad | .ex e => .ex e | _ => .bad) else .bad
theorem all_l : ∀ {rs : List D}, (rs.all fun d => match d with | .l _ => true | _ => false) = true → ∃ M : Mz, rs = M.map .l
  | [], _ => ⟨[], rfl⟩
  | d :: rs, h => by
    rw [List.all_cons, Bool.and_eq_true] at h
    obtain ⟨M, rfl⟩ := all_l h.2
    cases d with
    | l r => exact ⟨r :: M, rfl⟩
    | _ => exact absurd h.1 (by simp)
theorem re_callD (cy : Cy X c) {x : Str} {p : Pos} {k n : Nat} {F : List D → Re Rv} (h : DefOkD X.prog X.w X.K X.mg X.base k x n F) (hr : Room k X.A) (hg : Gl X x) (ha : PA X (e :: es) (tA c fa))
    (hdb : (x == ("__debug__" : Str)) = false := by decide) (he : starEach (e :: es) X.env = (false, eval e X.env) :: starEach es X.env := by rfl) (hpl : (backTo pos (starEach es X.env)).any (·.1) = false := by rfl) :
    PE X (.Call (.Name x p) (e :: es) [] pos) (tEn c (eCallD n F fa)) := by
  obtain ⟨f, fd, ps, h1, h2, h3, h4⟩ := h.ex
  refine PE.weak (pe_callS (E := WE c.W) h4 hr hg h1 h2 h3 (fun σ => L2N.passAt cy.tk σ) ha hdb he hpl) ?_
  rintro σ H Q ⟨G, Γ, hen, q⟩
  unfold eCallD at q
  refine ⟨G, Γ, hen, ?_⟩
  cases eA : fa Γ with
  | bad => rw [eA] at q; exact q
  | ex x => rw [eA] at q; exact q
  | ok ds =>
    rw [eA] at q
    simp only [Re.bind_ok] at q
    intro vs G1 H1 g1 rs
    have en1 := hen.mono g1
    split at q
    · rename_i hn
      refine ⟨G1, ds, hn, en1.ok0, by rw [cy.K]; exact rs, ?_⟩
      cases eF : F ds with
      | bad => rw [eF] at q; exact q
      | ex x => rw [eF] at q; exact fun G' H' g' C d hC hd => q G' H' (g1.trans g') C d (by rw [← cy.mg]; exact hC) (by rw [← cy.K]; exact hd)
      | ok r =>
        rw [eF] at q
        cases r with
        | sh d => exact q.elim
        | bo d => exact q.elim
        | fr d =>
          cases d with
          | l rs' =>
            dsimp only at q
            split at q
            · rename_i hall
              intro p' qs M G' H' er g' dc
              rw [cy.K] at dc
              subst er
              refine q p' (wthG G' H' qs) H' (qs.map .ref) (g1.trans (dc.gr g')) (Kept.non g1.hh (dc.nb p' List.mem_cons_self).1) dc.top0 dc.top dc.reps fun x hx => ?_
              obtain ⟨a, ha', rfl⟩ := List.mem_map.mp hx
              obtain ⟨j, hj, ej⟩ := List.getElem_of_mem ha'
              have hlen := dc.len
              obtain ⟨ys, k1, k2⟩ := dc.row j a M[j] (by rw [List.getElem?_eq_getElem hj, ej]) (List.getElem?_eq_getElem (by omega))
              refine ⟨a, ys, M[j], rfl, Kept.non g1.hh (dc.nb a (List.mem_cons_of_mem _ ha')).1, ?_, k2.length, List.mem_map.mpr ⟨_, List.getElem_mem _, rfl⟩⟩
              show (if a ∈ qs then H' a else G' a) = _
              rw [if_pos ha']; exact k1
            · exact q.elim
          | _ => exact q.elim
    · exact q.elim
theorem sp_appT {j : Nat} {y : Str} {py apos cpos pos p1 p2 pt : Pos} {t : Str} {z : Int} {j1 j2 x1 : Nat} (hN : X.N[j]? = some y) (hv : Vis X.env.scope y)
    (hd : (y == ("__debug__" : Str)) = false := by decide) (hcd : (y == ("__classdict__" : Str)) = false := by decide)
    (hsw : swapsWith (.Call (.Attribute (.Name y py) "append" apos) [.Tuple [.Constant (.str t) j1 p1, .Constant (.int z) j2 p2] x1 pt] [] cpos) none pos.line X.env = pure false := by rfl)
    (hbase : attributeBase (.Name y py) "append" X.env (eval (.Name y py) X.env) = eval (.Name y py) X.env := by rfl)
    (hfew : ((backTo cpos (starEach [.Tuple [.Constant (.str t) j1 p1, .Constant (.int z) j2 p2] x1 pt] X.env)).all (fun x => !x.1) && (backToKw cpos (keywordEach [] X.env)).all (fun x => x.1.isSome)
      && decide ([Expr.Tuple [.Constant (.str t) j1 p1, .Constant (.int z) j2 p2] x1 pt].length + ([] : List Keyword).length + (if ([] : List Keyword).isEmpty then 0 else 1) < 30)) = true := by rfl)
    (hline : (apos.endLine == cpos.line) = true := by rfl) (hs : starEach [.Tuple [.Constant (.str t) j1 p1, .Constant (.int z) j2 p2] x1 pt] X.env = [(false, eval (.Tuple [.Constant (.str t) j1 p1, .Constant (.int z) j2 p2] x1 pt) X.env)] := by rfl)
    (hs1 : starEach [.Constant (.str t) j1 p1, .Constant (.int z) j2 p2] X.env = (false, eval (.Constant (.str t) j1 p1) X.env) :: starEach [.Constant (.int z) j2 p2] X.env := by rfl)
    (hs2 : starEach [.Constant (.int z) j2 p2] X.env = [(false, eval (.Constant (.int z) j2 p2) X.env)] := by rfl) :
    ∃ tb, PSs X [.Expr (.Call (.Attribute (.Name y py) "append" apos) [.Tuple [.Constant (.str t) j1 p1, .Constant (.int z) j2 p2] x1 pt] [] cpos) pos] tb ∧ Spoils j tb := by
  refine ⟨_, pss_one (ps_expr (pe_bm PySem.F.plainAttrs_list PySem.F.slot_list_append PySem.F.type_list_append mt_append (pe_var hN hv hd hcd) (pa_cons (pe_tup (pa_cons pe_str (pa_cons pe_int pa_nil hs2) hs1)) pa_nil hs) hbase hfew hline hs) hsw), ?_⟩
  intro D σ H q ys e1 e2 hl hq
  refine ⟨_, e1, .inl ⟨rfl, _, SqL.of e2⟩, ?_⟩
  refine ⟨by show 2 ≤ sizeLine; rw [sizeLine_eq]; omega, fun a ha => ?_⟩
  have qa : q ≠ a := fun z => by rw [z, ha] at e2; cases e2
  refine ⟨q, ys, .ref a, rfl, rfl, by rw [upd_ne qa]; exact e2, hl, hq _ (upd H a _) (by simp) (fun b hb => ?_) fun tb => ?_⟩
  · have : b ≠ a := fun z => hb (z ▸ .of ha)
    rw [upd_ne this]
  · exact tb.ext fun b u e => by rw [upd_ne (ne_of_none e ha)]; exact e
end
end Ly
end

section
set_option maxRecDepth 100000
set_option maxHeartbeats 1000000
namespace Ly
open PySem PySem.Spec L2
open PyProof.Rows hiding St
section
variable {m : Nat} {L : Lk} {k k1 k2 k3 : Kd} {α β τ ω S : Type} {e : τ → D} {ea : α → D} {eb : β → D} {f g h : FE} {fi : FI} {ft : FT} {fr : FE} {fa : FA} {u w0 : FS} {v w : FN} {M : List (List α)} {i j : Nat}
def encM (ea : α → D) (M : List (List α)) : Mz := M.map fun r => r.map ea
def RZ {ω : Type} (P : ω → Fn → Prop) (T : Re ω) (r : Fn) : Prop := match T with | .ok a => P a r | _ => True
def BZ {ω : Type} (m : Nat) (L : Lk) (M : Mz) (P : ω → Fn → Prop) (T : Re ω) (u : FN) : Prop := ∀ Γ, Ag m L Γ → RZ P T (u Γ M)
def PNz (m : Nat) (ea : α → D) (Lo : S → Lk) (Mo : S → List (List α)) : S → Fn → Prop := fun s r => ∃ Γ', r = .nx Γ' (encM ea (Mo s)) ∧ Ag m (Lo s) Γ'
def PTz (ea : α → D) : List (List α) → Fn → Prop := fun M r => r = .rt (encM ea M)
theorem bz_nil {s : S} {Lo : S → Lk} {Mo : S → List (List α)} (hs : subL (Lo s) L) (hm : Mo s = M) : BZ m L (encM ea M) (PNz m ea Lo Mo) (.ok s) zNil := fun Γ hΓ => ⟨Γ, by rw [hm]; rfl, hΓ.sub hs⟩
theorem bz_ret : BZ m L (encM ea M) (PTz ea) (.ok M) zRet := fun _ _ => rfl
theorem bz_last {T : Re ω} {Mz : Mz} {P : ω → Fn → Prop} (h : BZ m L Mz P T (zSeq v zNil)) : BZ m L Mz P T v := fun Γ hΓ => by
  have h1 := h Γ hΓ
  unfold zSeq at h1
  cases e : v Γ Mz with
  | nx Γ' M' => rw [e] at h1; exact h1
  | rt M' => rw [e] at h1; exact h1
  | bad => rw [e] at h1; exact h1
theorem bz_app {x : Re (List α)} {K : List (List α) → Re ω} {P : ω → Fn → Prop} {fe : FE} (hx : ER m L .fr (eL ea) x fe) (hw : ∀ M', BZ m L (encM ea M') P (K M') w) : BZ m L (encM ea M) P (x.bind fun a => (appT M a).bind K) (zSeq (zApp fe) w) := fun Γ hΓ => by
  have h1 := hx Γ hΓ
  cases x with
  | ex _ => trivial
  | bad => trivial
  | ok r =>
    have h1 : fe Γ = .ok (.fr (.l (r.map ea))) := h1
    show RZ P ((appT M r).bind K) _
    unfold zSeq zApp
    rw [h1]
    dsimp only
    by_cases hl : M.length < 16777216
    · rw [appT_ok hl, if_pos (by unfold encM; rw [List.length_map]; exact hl)]
      have : encM ea M ++ [r.map ea] = encM ea (M ++ [r]) := by unfold encM; rw [List.map_append]; rfl
      rw [this]
      exact hw _ Γ hΓ
    · have : appT M r = .bad := by unfold appT; exact if_neg hl
      rw [this]; trivial
theorem forZ_t {t : Tg} {en : β → Lk} {Lh : S → Lk} {Mh : S → List (List α)} {B : S → β → Re S} (ht : TgR m eb t en) (hb : ∀ s a, BZ m (en a ++ Lh s) (encM ea (Mh s)) (PNz m ea Lh Mh) (B s a) v) : ∀ (as : List β) (s : S) (Γ : Env'), Ag m (Lh s) Γ → RZ (PNz m ea Lh Mh) (forT B as s) (forZ t v (as.map eb) Γ (encM ea (Mh s)))
  | [], s, Γ, hΓ => ⟨Γ, rfl, hΓ⟩
  | a :: as, s, Γ, hΓ => by
    obtain ⟨Γ1, h1, h2⟩ := ht _ a Γ hΓ
    have h3 := hb s a Γ1 h2
    rw [List.map_cons, forT_cons]
    unfold forZ
    rw [h1]
    dsimp only
    cases eB : B s a with
    | ok s' =>
      rw [eB] at h3
      obtain ⟨Γ', h4, h5⟩ := h3
      rw [h4]
      exact forZ_t ht hb as s' Γ' h5
    | ex z => trivial
    | bad => trivial
theorem bz_for {t : Tg} {en : β → Lk} {Lh : S → Lk} {Mh : S → List (List α)} {B : S → β → Re S} {x : Re (List β)} {s0 : S} {K : S → Re ω} {P : ω → Fn → Prop} (hi : IR m L eb x fi) (ht : TgR m eb t en) (hs : subL (Lh s0) L) (hm : Mh s0 = M) (hb : ∀ s a, BZ m (en a ++ Lh s) (encM ea (Mh s)) (PNz m ea Lh Mh) (B s a) v) (hw : ∀ s, BZ m (Lh s) (encM ea (Mh s)) P (K s) w) :
    BZ m L (encM ea M) P (x.bind fun as => (forT B as s0).bind K) (zSeq (zFor fi t v) w) := fun Γ hΓ => by
  have h1 := hi Γ hΓ
  subst hm
  cases x with
  | ex _ => trivial
  | bad => trivial
  | ok as =>
    have h1 : fi Γ = .ok _ := h1
    have h2 := forZ_t ht hb as s0 Γ (hΓ.sub hs)
    show RZ P ((forT B as s0).bind K) _
    unfold zSeq zFor
    rw [h1]
    dsimp only
    cases eF : forT B as s0 with
    | ok s =>
      rw [eF] at h2
      obtain ⟨Γ', h3, h4⟩ := h2
      rw [h3]
      exact hw s Γ' h4
    | ex z => trivial
    | bad => trivial
theorem bg_deep {T : Re (List (List α))} (him : i < m) (hw : ∀ p : Addr, BZ m ((i, .sh (.o p)) :: L) (encM ea ([] : List (List α))) (PTz ea) T w) : BG m L (PT .fr (eL (eL ea))) (nxT T) (sDeep i w) := fun Γ hΓ => by
  cases T with
  | ex _ => trivial
  | bad => trivial
  | ok R =>
    have h3 : ∀ p : Addr, outZ (w (Γ.set i (some (.sh (.o p)))) []) = some (encM ea R) := fun p => by
      have h4 := hw p _ (hΓ.set him (.sh (.o p)))
      have h4 : w (Γ.set i (some (.sh (.o p)))) [] = .rt (encM ea R) := h4
      rw [h4]; rfl
    show sDeep i w Γ = .rt (.fr (.l (R.map (eL ea))))
    unfold sDeep
    have hc : i < Γ.length ∧ ∃ R : Mz, ∀ p : Addr, outZ (w (Γ.set i (some (.sh (.o p)))) []) = some R := ⟨by rw [hΓ.len]; exact him, _, h3⟩
    rw [dif_pos hc]
    have h5 := Classical.choose_spec hc.2 0
    rw [h3 0] at h5
    rw [← Option.some.inj h5]
    unfold encM
    rw [List.map_map]
    rfl
theorem seqD_ex : sSeqD (sEx f) u = sSeq (sEx f) u := by
  funext Γ
  unfold sSeqD sSeq sEx
  cases f Γ with
  | ok r => rfl
  | ex z => rfl
  | bad => rfl
theorem er_fzP {i : Nat} {x : Re τ} {f : FE} (hp : ∀ a, (e a).plain = true) (hx : ER m (frzL i L) .sh e x f) : ER m L .sh e (nxT x) (eFz i f) := fun Γ hΓ => by
  have h1 := hx _ (hΓ.frz i)
  cases x with
  | ok a =>
    have h1 : f (frz i Γ) = .ok (.sh (e a)) := h1
    show eFz i f Γ = _
    unfold eFz
    rw [h1]
    dsimp only
    rw [if_pos (hp a)]
    rfl
  | ex z => trivial
  | bad => trivial
def lensE (ea : α → D) (rs : List (List α)) : Bool := lens (rs.map (eL ea))
theorem lensE_ok {rs : List (List α)} (h : ∀ zs ∈ rs, zs.length + rs.length < 16777216) : lensE ea rs = true := by
  unfold lensE lens
  rw [List.all_eq_true]
  intro d hd
  obtain ⟨zs, hz, rfl⟩ := List.mem_map.mp hd
  simpa using h zs hz
theorem cn_callD {n : Nat} {F : List D → Re Rv} {ds : List D} {x : Re (List (List α))} (ha : AR m L ds fa) (hn : ds.length = n) (hF : RE1 .fr (eL (eL ea)) x (F ds)) : ER m L .fr (eL (eL ea)) x (eCallD n F fa) := fun Γ hΓ => by
  unfold eCallD
  rw [ha Γ hΓ, Re.bind_ok, if_pos hn]
  cases x with
  | ok rs =>
    have hF : F ds = .ok (.fr (.l (rs.map (eL ea)))) := hF
    rw [hF]
    dsimp only
    rw [if_pos]
    · rfl
    · rw [List.all_eq_true]
      intro d hd
      obtain ⟨zs, hz, rfl⟩ := List.mem_map.mp hd
      rfl
  | ex z => have hF : F ds = .ex z := hF; rw [hF]; rfl
  | bad => trivial
theorem bg_spoilE {x : Re (List (List α))} {t : List (List α) → Re Bool} {K : List (List α) → Re ω} {P : ω → Fl → Prop} {L' : Lk} {call : FE} (hi : i < m) (hj : j < m) (hs : SpL i j L L') (hc : ER m L .fr (eL (eL ea)) x call) (ht : ∀ rs, TR m ((i, .fr (eL (eL ea) rs)) :: L) (t rs) ft) (hw : ∀ rs, BG m L' P (K rs) w0) :
    BG m L P (x.bind fun rs => (t rs).bind fun b => if b = true then Re.bad else if lensE ea rs = true then K rs else Re.bad) (sSpoil i j call ft fr w0) := fun Γ hΓ => by
  have h1 := hc Γ hΓ
  unfold sSpoil
  cases x with
  | ex z => have h1 : call Γ = .ex z := h1; rw [h1]; exact ⟨Γ, rfl⟩
  | bad => trivial
  | ok rs =>
    have h1 : call Γ = .ok (.fr (.l (rs.map (eL ea)))) := h1
    have h2 := ht rs _ (hΓ.set hi (.fr (eL (eL ea) rs)))
    rw [h1]
    show RS P ((t rs).bind fun b => if b = true then Re.bad else if lensE ea rs = true then K rs else Re.bad) ((ft (Γ.set i (some (.fr (eL (eL ea) rs))))).fl _ _)
    cases et : t rs with
    | ex z =>
      rw [et] at h2
      have h2 : ft _ = .ex z := h2
      rw [h2]; exact ⟨_, rfl⟩
    | bad => trivial
    | ok b =>
      rw [et] at h2
      have h2 : ft _ = .ok b := h2
      rw [h2]
      cases b with
      | true => trivial
      | false =>
        show RS P (if lensE ea rs = true then K rs else Re.bad) (if lens (rs.map (eL ea)) = true ∧ i < Γ.length ∧ j < Γ.length then w0 _ else Fl.bad)
        by_cases hl : lensE ea rs = true
        · rw [if_pos hl, if_pos ⟨hl, by rw [hΓ.len]; exact hi, by rw [hΓ.len]; exact hj⟩]
          refine hw rs _ ⟨by simp [clr, hΓ.len], fun n r hn => ?_⟩
          obtain ⟨n1, n2, ⟨d, rfl⟩, h3⟩ := hs n r hn
          rw [List.getElem?_set_ne (Ne.symm n2), List.getElem?_set_ne (Ne.symm n1)]
          unfold clr
          rw [List.getElem?_map, hΓ.at' n _ h3]
          rfl
        · rw [if_neg hl]; trivial
end
end Ly
end

section
set_option maxRecDepth 100000
namespace C
open Ly
def ringN (f l : Nat) : List Nat := 2 * f :: ((List.range (l + 1 - f)).map (fun i => 2 * (f + i) + 1) ++ (List.range (l - f)).map (fun i => 2 * (l - i)))
def swp {α : Type} (row : List α) (i j : Nat) : List α := match row[i]?, row[j]? with
  | some a, some b => (row.set i b).set j a
  | _, _ => row
def swapsL {α : Type} (s : List (Nat × Nat)) (row : List α) : List α := s.foldl (fun r p => swp r p.1 p.2) row
theorem swp_len {α : Type} (row : List α) (i j : Nat) : (swp row i j).length = row.length := by
  unfold swp
  split <;> simp
theorem swapsL_len {α : Type} : ∀ (s : List (Nat × Nat)) (row : List α), (swapsL s row).length = row.length
  | [], _ => rfl
  | p :: s, row => by
    show (swapsL s (swp row p.1 p.2)).length = _
    rw [swapsL_len s, swp_len]
theorem swapsL_app {α : Type} (s t : List (Nat × Nat)) (row : List α) : swapsL (s ++ t) row = swapsL t (swapsL s row) := by
  unfold swapsL; rw [List.foldl_append]
theorem swp_map {α β : Type} (φ : α → β) (row : List α) (i j : Nat) : swp (row.map φ) i j = (swp row i j).map φ := by
  unfold swp
  rw [List.getElem?_map, List.getElem?_map]
  cases row[i]? with
  | none => rfl
  | some a =>
    cases row[j]? with
    | none => rfl
    | some b => simp [List.map_set]
theorem swapsL_map {α β : Type} (φ : α → β) : ∀ (s : List (Nat × Nat)) (row : List α), swapsL s (row.map φ) = (swapsL s row).map φ
  | [], _ => rfl
  | p :: s, row => by
    show swapsL s (swp (row.map φ) p.1 p.2) = _
    rw [swp_map, swapsL_map φ s]; rfl
def Eff (n : Nat) (G : Nat → Nat) (s : List (Nat × Nat)) : Prop := ∀ (row : List Int), row.length = n → ∀ p, p < n → G p < n ∧ (swapsL s row)[G p]? = row[p]?
def effB (n : Nat) (G : Nat → Nat) (s : List (Nat × Nat)) : Bool := (List.range n).all fun p => decide (G p < n) && ((swapsL s (List.range n))[G p]? == some p)
theorem effB_ok {n : Nat} {G : Nat → Nat} {s : List (Nat × Nat)} (h : effB n G s = true) : Eff n G s := by
  intro row hr p hp
  unfold effB at h
  rw [List.all_eq_true] at h
  have := h p (by simpa using hp)
  simp only [Bool.and_eq_true, decide_eq_true_eq, beq_iff_eq] at this
  refine ⟨this.1, ?_⟩
  have e : row = (List.range n).map fun i => row[i]?.getD 0 := by
    apply List.ext_getElem?
    intro i
    rw [List.getElem?_map]
    by_cases hi : i < n
    · rw [List.getElem?_range hi, List.getElem?_eq_getElem (by omega)]; simp [List.getElem?_eq_getElem (show i < row.length by omega)]
    · rw [List.getElem?_eq_none (by omega), List.getElem?_eq_none (by simpa using hi)]; rfl
  rw [e, swapsL_map, List.getElem?_map, this.2, List.getElem?_map, List.getElem?_range hp]
theorem Eff.comp {n : Nat} {G G' : Nat → Nat} {s s' : List (Nat × Nat)} (h : Eff n G s) (h' : Eff n G' s') : Eff n (fun p => G' (G p)) (s ++ s') := by
  intro row hr p hp
  obtain ⟨h1, h2⟩ := h row hr p hp
  obtain ⟨h3, h4⟩ := h' (swapsL s row) (by rw [swapsL_len]; exact hr) (G p) h1
  exact ⟨h3, by rw [swapsL_app, h4, h2]⟩
theorem Eff.congr {n : Nat} {G G' : Nat → Nat} {s : List (Nat × Nat)} (h : Eff n G s) (e : ∀ p, p < n → G' p = G p) : Eff n G' s := by
  intro row hr p hp
  rw [e p hp]
  exact h row hr p hp
theorem Eff.id (n : Nat) : Eff n (fun p => p) [] := fun row hr p hp => ⟨hp, rfl⟩
def ixR' (R : List Nat) (p : Nat) : Option Nat := R.findIdx? (· == p)
def rotG (R : List Nat) (ch : Bool) (m : Int) (p : Nat) : Nat := match ixR' R p with
  | some i => R[(((i : Int) + (if ch && i % 2 == 1 then -m else m)) % (R.length : Int)).toNat]?.getD 0
  | none => p
theorem ixR'_some {R : List Nat} {p i : Nat} (h : ixR' R p = some i) : R[i]? = some p := by
  unfold ixR' at h
  obtain ⟨h1, h2, _⟩ := List.findIdx?_eq_some_iff_getElem.mp h
  rw [List.getElem?_eq_getElem h1]
  simpa using h2
theorem ixR'_at {R : List Nat} (hn : R.Nodup) {i p : Nat} (h : R[i]? = some p) : ixR' R p = some i := by
  obtain ⟨hi, e⟩ := List.getElem?_eq_some_iff.mp h
  unfold ixR'
  rw [List.findIdx?_eq_some_iff_getElem]
  refine ⟨hi, by simp [e], fun j hj => ?_⟩
  have hp := List.pairwise_iff_getElem.mp hn j i (by omega) hi hj
  simp only [beq_iff_eq]
  intro z
  exact hp (by rw [z, e])
theorem ixR'_none {R : List Nat} {p : Nat} (h : ixR' R p = none) : p ∉ R := by
  unfold ixR' at h
  rw [List.findIdx?_eq_none_iff] at h
  intro hm
  have := h p hm
  simp at this
def pairsR (R : List Nat) : List (Nat × Nat) := (List.range (R.length - 1)).map fun i => (R[i]?.getD 0, R[i + 1]?.getD 0)
def pairsC (R : List Nat) (b : Nat) : List (Nat × Nat) := (List.range ((R.length - b + 1) / 2)).map fun i => (R[b + 2 * i]?.getD 0, R[(b + 2 * i + 1) % R.length]?.getD 0)
def stepS (R : List Nat) (ch neg : Bool) (k : Nat) : List (Nat × Nat) :=
  if ch then pairsC R ((k + (if neg then 1 else 0)) % 2) else if neg then pairsR R else (pairsR R).reverse
def stepG (R : List Nat) (ch neg : Bool) (k : Nat) (p : Nat) : Nat := match ixR' R p with
  | some i => R[(((i : Int) + (if ch then (if i % 2 == (k + (if neg then 1 else 0)) % 2 then 1 else -1) else (if neg then -1 else 1))) % (R.length : Int)).toNat]?.getD 0
  | none => p
def roundsS (R : List Nat) (ch neg : Bool) (n : Nat) : List (Nat × Nat) := ((List.range n).map (stepS R ch neg)).flatten
theorem roundsS_succ (R : List Nat) (ch neg : Bool) (n : Nat) : roundsS R ch neg (n + 1) = roundsS R ch neg n ++ stepS R ch neg n := by
  unfold roundsS
  rw [List.range_succ, List.map_append, List.flatten_append]
  simp
structure RingOk (R : List Nat) : Prop where
  nd : R.Nodup
  pos : 0 < R.length
  even : R.length % 2 = 0
theorem rot_step {R : List Nat} (h : RingOk R) (ch neg : Bool) (k : Nat) (p : Nat) : rotG R ch (if neg then -((k + 1 : Nat) : Int) else ((k + 1 : Nat) : Int)) p = stepG R ch neg k (rotG R ch (if neg then -(k : Int) else (k : Int)) p) := by
  unfold rotG
  cases e : ixR' R p with
  | none => unfold stepG; rw [e]
  | some i =>
    dsimp only
    have hpos := h.pos
    have hev := h.even
    have hi : i < R.length := (List.getElem?_eq_some_iff.mp (ixR'_some e)).1
    generalize hj : (((i : Int) + (if ch && i % 2 == 1 then -(if neg then -(k : Int) else (k : Int)) else (if neg then -(k : Int) else (k : Int)))) % (R.length : Int)).toNat = j
    have hj0 : 0 ≤ ((i : Int) + (if ch && i % 2 == 1 then -(if neg then -(k : Int) else (k : Int)) else (if neg then -(k : Int) else (k : Int)))) % (R.length : Int) := Int.emod_nonneg _ (by omega)
    have hj1 : ((i : Int) + (if ch && i % 2 == 1 then -(if neg then -(k : Int) else (k : Int)) else (if neg then -(k : Int) else (k : Int)))) % (R.length : Int) < R.length := Int.emod_lt_of_pos _ (by omega)
    have hjl : j < R.length := by omega
    have ej : ixR' R (R[j]?.getD 0) = some j := ixR'_at h.nd (by rw [List.getElem?_eq_getElem hjl]; rfl)
    unfold stepG
    rw [ej]
    dsimp only
    congr 3
    have hjz : ((i : Int) + (if ch && i % 2 == 1 then -(if neg then -(k : Int) else (k : Int)) else (if neg then -(k : Int) else (k : Int)))) % (R.length : Int) = (j : Int) := by omega
    have add : ∀ (a c : Int), (a + c) % (R.length : Int) = ((a % (R.length : Int)) + c) % (R.length : Int) := fun a c => by rw [Int.emod_add_emod]
    cases ch with
    | false =>
      simp only [Bool.false_and, Bool.false_eq_true, if_false] at hjz ⊢
      cases neg with
      | false =>
        simp only [Bool.false_eq_true, if_false] at hjz ⊢
        rw [← hjz, Int.emod_add_emod]; congr 1; first | done | omega
      | true =>
        simp only [if_true] at hjz ⊢
        rw [← hjz, Int.emod_add_emod]; congr 1; first | done | omega
    | true =>
      simp only [Bool.true_and, if_true] at hjz ⊢
      have par : ∀ (z : Int), z % (R.length : Int) = (j : Int) → z % 2 = ((j % 2 : Nat) : Int) := fun z hz => by
        obtain ⟨q, hq⟩ : ∃ q : Int, (R.length : Int) = 2 * q := ⟨(R.length : Int) / 2, by omega⟩
        have e1 := Int.emod_add_mul_ediv z (R.length : Int)
        rw [hz, hq] at e1
        have : z = (j : Int) + 2 * (q * (z / (2 * q))) := by rw [← Int.mul_assoc]; exact e1.symm
        omega
      have hp := par _ hjz
      by_cases hi2 : i % 2 = 1
      · simp only [hi2, beq_self_eq_true, if_true] at hjz hp ⊢
        cases neg with
        | false =>
          simp only [Bool.false_eq_true, if_false] at hjz hp ⊢
          have : ¬ (j % 2 == (k + 0) % 2) = true := by simp only [beq_iff_eq]; omega
          rw [if_neg this, ← hjz, Int.emod_add_emod]; congr 1; first | done | omega
        | true =>
          simp only [if_true] at hjz hp ⊢
          have : (j % 2 == (k + 1) % 2) = true := by simp only [beq_iff_eq]; omega
          rw [if_pos this, ← hjz, Int.emod_add_emod]; congr 1; first | done | omega
      · have hi3 : ¬ (i % 2 == 1) = true := by simpa using hi2
        rw [if_neg hi3] at hjz hp
        rw [if_neg hi3]
        cases neg with
        | false =>
          simp only [Bool.false_eq_true, if_false] at hjz hp ⊢
          have : (j % 2 == (k + 0) % 2) = true := by simp only [beq_iff_eq]; omega
          rw [if_pos this, ← hjz, Int.emod_add_emod]; congr 1; first | done | omega
        | true =>
          simp only [if_true] at hjz hp ⊢
          have : ¬ (j % 2 == (k + 1) % 2) = true := by simp only [beq_iff_eq]; omega
          rw [if_neg this, ← hjz, Int.emod_add_emod]; congr 1; first | done | omega
theorem rot_zero {R : List Nat} (h : RingOk R) (ch : Bool) (p : Nat) : rotG R ch 0 p = p := by
  unfold rotG
  cases e : ixR' R p with
  | none => rfl
  | some i =>
    have h1 := ixR'_some e
    have hi : i < R.length := (List.getElem?_eq_some_iff.mp h1).1
    dsimp only
    have : (((i : Int) + (if ch && i % 2 == 1 then -0 else 0)) % (R.length : Int)).toNat = i := by
      have : (if (ch && i % 2 == 1) = true then (-0 : Int) else 0) = 0 := by split <;> rfl
      rw [this, Int.add_zero, Int.emod_eq_of_lt (by omega) (by omega)]; rfl
    rw [this, h1]; rfl
theorem rounds_eff {n : Nat} {R : List Nat} (h : RingOk R) (ch neg : Bool) (hs : ∀ k, Eff n (stepG R ch neg k) (stepS R ch neg k)) : ∀ k : Nat, Eff n (rotG R ch (if neg then -(k : Int) else (k : Int))) (roundsS R ch neg k)
  | 0 => by
    have : Eff n (fun p => p) (roundsS R ch neg 0) := Eff.id n
    refine this.congr fun p _ => ?_
    cases neg <;> exact rot_zero h ch p
  | k + 1 => by
    rw [roundsS_succ]
    exact ((rounds_eff h ch neg hs k).comp (hs k)).congr fun p _ => rot_step h ch neg k p
def ringB (n f l : Nat) : Bool := decide (ringN f l).Nodup && decide (0 < (ringN f l).length) && decide ((ringN f l).length % 2 = 0) &&
  [false, true].all fun ch => [false, true].all fun neg => [0, 1].all fun k => effB n (stepG (ringN f l) ch neg k) (stepS (ringN f l) ch neg k)
def ringsB : Bool := (List.range 7).all fun n => (List.range n).all fun l => (List.range l).all fun f => ringB (2 * n) f l
theorem ringsB_ok : ringsB = true := by decide +kernel
theorem ring_ok {n f l : Nat} (hf : f < l) (hl : l < n) (hn : n ≤ 6) : RingOk (ringN f l) ∧ ∀ ch neg k, Eff (2 * n) (stepG (ringN f l) ch neg k) (stepS (ringN f l) ch neg k) := by
  have h := ringsB_ok
  unfold ringsB at h
  simp only [List.all_eq_true, List.mem_range] at h
  have h := h n (by omega) l hl f hf
  unfold ringB at h
  simp only [Bool.and_eq_true, decide_eq_true_eq, List.all_eq_true] at h
  obtain ⟨⟨⟨h1, h2⟩, h3⟩, h4⟩ := h
  refine ⟨⟨h1, h2, h3⟩, fun ch neg k => ?_⟩
  have h5 := effB_ok (h4 ch (by cases ch <;> simp) neg (by cases neg <;> simp) (k % 2) (by have : k % 2 = 0 ∨ k % 2 = 1 := by omega
                                                                                           rcases this with h | h <;> simp [h]))
  have e1 : stepS (ringN f l) ch neg (k % 2) = stepS (ringN f l) ch neg k := by
    unfold stepS
    cases neg <;> simp [Nat.add_mod]
  have e2 : stepG (ringN f l) ch neg (k % 2) = stepG (ringN f l) ch neg k := by
    funext p
    unfold stepG
    cases neg <;> simp [Nat.add_mod]
  rw [e1, e2] at h5
  exact h5
theorem rounds_ok {n f l : Nat} (hf : f < l) (hl : l < n) (hn : n ≤ 6) (ch : Bool) (m : Int) : Eff (2 * n) (rotG (ringN f l) ch m) (roundsS (ringN f l) ch (decide (m < 0)) m.natAbs) := by
  obtain ⟨h1, h2⟩ := ring_ok hf hl hn
  have := rounds_eff h1 ch (decide (m < 0)) (h2 ch (decide (m < 0))) m.natAbs
  have e : (if decide (m < 0) = true then -(m.natAbs : Int) else (m.natAbs : Int)) = m := by
    by_cases hm : m < 0
    · rw [if_pos (by simpa using hm)]; omega
    · rw [if_neg (by simpa using hm)]; omega
  rw [e] at this
  exact this
end C
end

section
set_option maxRecDepth 100000
set_option maxHeartbeats 1000000
namespace Tri
open PySem PySem.Spec L2
open PyProof.Rows hiding St
abbrev Su := Addr → Value → Option Addr → TS
def gone (i : Nat) (D : Ends) : Ends := ⟨fun st hp => D.nx (st.set i none) hp, D.rt, fun st hp => D.bk (st.set i none) hp, fun st hp => D.ct (st.set i none) hp⟩
def wCh (K : PySem.W.Frag) (i : Nat) (Wo : WX) (D : Ends) : List (Value × Su) → WX
  | [] => Wo
  | q :: r => fun k dx st hp => ∃ b, PySem.W.exmOne K k q.1 = some b ∧ (b = true → ∀ e, hp e = none → q.2 e k dx (gone i D) (st.set i (some (.ref e))) hp) ∧ (b = false → wCh K i Wo D r k dx st hp)
inductive Chs (X : Cx) (n : Str) : List ExceptHandler → List (Value × Su) → Prop
  | nil : Chs X n [] []
  | cons {y : Str} {c : Value} {f : Su} {b : Stmt} {sts : List Stmt} {p1 p2 : Pos} {hs : List ExceptHandler} {l : List (Value × Su)} : Names X y c →
      (∀ (e : Addr) (o : Obj) (k : Value) (dx : Option Addr) (pn : List (Addr × Obj)), L2N.Zn k dx o → (∃ vs, o.data = .fields vs) → PSs (X.suite e ((e, o) :: pn)) (b :: sts) (f e k dx)) →
      Chs X n hs l → Chs X n (.ExceptHandler (some (.Name y p1)) (some n) (b :: sts) p2 :: hs) ((c, f) :: l)
structure Got (X : Cx) (pins : List (Addr × Obj)) (e : Addr) (G : Heap) (sI s' : Shared) (hp : Hp) (st : St) (k : Value) (dx : Option Addr) (h3 : Heap) : Prop where
  inv : Inv X pins st hp sI
  nb : ∀ b o, sI.heap.get? b = some o → b ∉ frs X.stack → G.get? b = some o
  up : sI.heap.UpToSlots h3
  fl : HandSPX.FlyingZ G (X.env :: X.outer) e (L2N.Zn k dx) h3
  os : s'.os = sI.os
  ag : AllBare s'.gens
  na : hp e = none
section
variable {X : Cx} {pins : List (Addr × Obj)} {e : Addr} {G : Heap} {sI s' : Shared} {hp : Hp} {st : St} {k : Value} {dx : Option Addr} {h3 : Heap}
theorem Got.here (g : Got X pins e G sI s' hp st k dx h3) : Inv X pins st hp { s' with heap := h3 } := g.inv.landed g.nb g.fl.1 g.up g.os g.ag
theorem Got.off (g : Got X pins e G sI s' hp st k dx h3) : e ∉ frs (X.env :: X.outer) := by
  obtain ⟨oe, vs, h1, _, h2⟩ := g.fl.there
  intro hm
  obtain ⟨_, o', h4, h5⟩ := g.fl.2.2.1.mem hm
  rw [h1] at h4
  cases h4
  exact h5 _ h2
theorem Got.loc (g : Got X pins e G sI s' hp st k dx h3) (hf : X.env.frame = some X.env.locals) : e ≠ X.env.locals := fun z => g.off (by
  rw [z]
  exact List.mem_filterMap.mpr ⟨X.env, List.mem_cons_self, hf⟩)
theorem Got.fs (g : Got X pins e G sI s' hp st k dx h3) : e ∉ X.fs := fun hm => g.off (by
  obtain ⟨v, h1, h2⟩ := List.mem_filterMap.mp hm
  exact List.mem_filterMap.mpr ⟨v, List.mem_cons_of_mem _ h1, h2⟩)
theorem Got.in (g : Got X pins e G sI s' hp st k dx h3) (hf : X.env.frame = some X.env.locals) : ∃ oe, h3.get? e = some oe ∧ L2N.Zn k dx oe ∧ (∃ vs, oe.data = .fields vs) ∧ Inv (X.suite e ((e, oe) :: (X.pn ++ pins))) [] st hp { s' with heap := h3 } := by
  obtain ⟨oe, vs, h1, h2, h4⟩ := g.fl.there
  exact ⟨oe, h1, h2, ⟨vs, h4⟩, g.here.suite h1 h4 g.na (g.loc hf) g.fs⟩
theorem Got.chain {n : Str} {i : Nat} {Wo : WX} {D : Ends} (g : Got X pins e G sI s' hp st k dx h3) (hs : X.stack = X.env :: X.outer) (hf : X.env.frame = some X.env.locals) (hN : X.N.Nodup) (hi : X.N[i]? = some n) (hln : X.env.kindOf n = some .local) (tk : L2N.Takes X Wo) :
    ∀ {hds : List ExceptHandler} {l : List (Value × Su)}, Chs X n hds l → wCh X.K i Wo D l k dx st hp → wpAny (model X.prog X.w) X.A (handleBy (.ref e) X.env hds) (SP X pins D) X.xe { s' with heap := h3 } := by
  intro hds l hc
  induction hc with
  | nil =>
    intro w
    refine wpAny_handleBy_nil ?_
    obtain ⟨_, _, _, oe, vs, T, _, _, q1, _, q2, q3, _⟩ := id g.fl
    have nt : ¬ ((Value.ref T == Value.none) = true) := by simp
    have away : wpAny (model X.prog X.w) X.A (setFlight (.ref e) X.env.frame) (fun _ s4 => wpAny (model X.prog X.w) X.A (throw (.ref e) : Sem Flow) (SP X pins D) X.xe s4) X.xe { s' with heap := h3 } := by
      rw [hf]
      refine HandSPX.setFlight_upZ g.fl fun h4 held up4 => wpAny_throw (tk _ _ ?_)
      exact ⟨e, G, sI, pins, st, hp, k, dx, rfl, g.inv, g.nb, g.up.trans up4, .inr (.inr (by rw [hs]; exact held)), g.na, g.os, g.ag, w⟩
    unfold PySem.passOn
    refine wpAny_bind (wpAny_field q1 q2 q3 ?_)
    rw [if_neg nt]
    first
      | exact wpAny_bind away
      | exact wpAny_bind (wpAny_pure (wpAny_bind away))
  | @cons y c f b0 sts p1 p2 hs2 l2 hy hsu hr ih =>
    rintro ⟨b, hb, yes, no⟩
    obtain ⟨oe, o1, o2, o3, S⟩ := g.in hf
    refine wpAny_handleBy_cons (codeAny_handlers_test ?_) (by intro z; cases z)
    have ty : PySem.W.Looks (model X.prog X.w) h3 (typeOf (.ref e)) k := fun A Q E s4 kk q => wpAny_typeOf_ref (kk _ _ o1) (by rw [o2.1]; exact q)
    have mt := PySem.W.exm_one (M := model X.prog X.w) g.here.kIn ty hb
    have name : ∀ {Q : Value → Shared → Prop} {E : Value → Shared → Prop}, Q c { s' with heap := h3 } → wpAny (model X.prog X.w) (X.A.mark (some (.ref e))) (eval (.Name y p1) X.env) Q E { s' with heap := h3 } := fun {Q E} q => by
      obtain ⟨n1, n2, n3⟩ := hy
      rcases n3 with n3 | ⟨n3, n4, n5⟩
      · exact ld_glob S n1 n3 q n2
      · exact ld_blt S n1 n3 n4 q n5 n2
    refine name (mt.here ?_)
    cases b with
    | false => exact ih (no rfl)
    | true =>
      refine codeAny_handlers_suite_as (HandSPX.lands_againZ g.fl fun h4 fl4 up4 => ?_)
      have g4 : Got X pins e G sI s' hp st k dx h4 := ⟨g.inv, g.nb, g.up.trans up4, fl4, g.os, g.ag, g.na⟩
      obtain ⟨oe4, _, z4, d4, S4⟩ := g4.in hf
      have body := hsu e oe4 k dx (X.pn ++ pins) z4 d4
      refine store_ok (X := X.suite e ((e, oe4) :: (X.pn ++ pins))) (v := V.ref e) S4 hN hi (.inl hln) rfl (fun s5 S5 => ?_) (.inr hln)
      refine wpAny_mono (body.run [] s5 _ hp _ S5 (yes rfl e g.na)) (fun fl s6 done => ?_) (fun _ _ z => z.elim)
      have drop : ∀ {st6 : St} {hp6 : Hp} {Q : Shared → Prop}, Inv (X.suite e ((e, oe4) :: (X.pn ++ pins))) [] st6 hp6 s6 → (∀ s7, Inv X pins (st6.set i none) hp6 s7 → Q s7) →
          wpAny (model X.prog X.w) X.A (do bindName X.env n .none; unbindBehindTheSuite X.env n p2) (fun _ s7 => Q s7) X.xe s6 := fun J6 hq => gone_ok (J6.unsuite g.inv.ok) hN hi hln hq
      cases fl with
      | next => obtain ⟨st6, hp6, J6, q6⟩ := done; exact drop J6 fun s7 J7 => ⟨_, _, J7, q6⟩
      | brk => obtain ⟨st6, hp6, J6, q6⟩ := done; exact drop J6 fun s7 J7 => ⟨_, _, J7, q6⟩
      | cont => obtain ⟨st6, hp6, J6, q6⟩ := done; exact drop J6 fun s7 J7 => ⟨_, _, J7, q6⟩
      | ret u => obtain ⟨v6, st6, hp6, J6, r6, q6⟩ := done; exact drop J6 fun s7 J7 => ⟨_, _, _, J7, r6, q6⟩
theorem ps_try_chain {n : Str} {i : Nat} {Wo : WX} {body : List Stmt} {h0 : ExceptHandler} {hds : List ExceptHandler} {l : List (Value × Su)} {pos : Pos} {tb : WX → TS} (hs : X.stack = X.env :: X.outer) (hf : X.env.frame = some X.env.locals) (hN : X.N.Nodup) (hi : X.N[i]? = some n) (hln : X.env.kindOf n = some .local) (tk : L2N.Takes X Wo)
    (hb : ∀ (W : WX) (pn : List (Addr × Obj)) (xe : Value → Shared → Prop), L2N.Takes (X.tr pn xe) W → PassesOwn (model X.prog X.w) X.A X.env xe → PSs (X.tr pn xe) body (tb W))
    (hc : Chs X n (h0 :: hds) l) : PS X (.Try body (h0 :: hds) [] [] pos) (fun D st hp => tb (wCh X.K i Wo D l) D st hp) := by
  refine ⟨fun pins s st hp D I start => ?_⟩
  have frames : X.A.frames = some (X.env :: X.outer) := I.ok.frames.trans (by rw [hs])
  refine wpAny_Try_except ?_
  let xe1 : Value → Shared → Prop := fun u s1 => wpAny (model X.prog X.w) X.A (noteFrame u X.env) (fun _ s2 => wpAny (model X.prog X.w) X.A (setFlight u none) (fun _ s3 => wpAny (model X.prog X.w) X.A (handleBy u X.env (h0 :: hds)) (SP X pins D) X.xe s3) X.xe s2) X.xe s1
  have tk1 : L2N.Takes (X.tr (X.pn ++ pins) xe1) (wCh X.K i Wo D l) := by
    rintro u s1 ⟨e, G, sI, pins1, st1, hp1, k, dx, rfl, J1, nb, up, sky, na, os, ag, w⟩
    have J := J1.ofTry I.ok
    have sky1 : Sky G (X.env :: X.outer) e (L2N.Zn k dx) X.env.locals s1.heap := by rw [← hs]; exact sky
    show wpAny (model X.prog X.w) X.A (noteFrame (.ref e) X.env) _ _ _
    refine L2N.Sky.land L2N.Zn.steady frames hf sky1 fun h3 fl3 up3 => ?_
    exact Got.chain (s' := s1) ⟨J, nb, up.trans up3, fl3, os, ag, na⟩ hs hf hN hi hln tk hc w
  refine wpAny_mono ((hb _ (X.pn ++ pins) xe1 tk1 PassesOwn.looking).run [] s st hp D (I.toTry _) start) (fun fl s1 done => ?_) (fun _ _ z => z)
  cases fl with
  | next => obtain ⟨st1, hp1, J, q⟩ := done; exact wpAny_execs_nil ⟨st1, hp1, J.ofTry I.ok, q⟩
  | brk => obtain ⟨st1, hp1, J, q⟩ := done; exact ⟨st1, hp1, J.ofTry I.ok, q⟩
  | cont => obtain ⟨st1, hp1, J, q⟩ := done; exact ⟨st1, hp1, J.ofTry I.ok, q⟩
  | ret u => obtain ⟨v, st1, hp1, J, r, q⟩ := done; exact ⟨v, st1, hp1, J.ofTry I.ok, r, q⟩
end
end Tri
end

section
set_option maxRecDepth 100000
set_option maxHeartbeats 2000000
namespace Tri
open PySem PySem.Spec L2
open L2H hiding St
open PyProof.Rows hiding St
theorem call_isP {X : Cx} {a D : Addr} {oe : Obj} (C : ExcC X.K D) (hm : (a, oe) ∈ X.pn) (hz : Zc (.ref D) none oe) (hf : ∃ vs, oe.data = .fields vs) : CallR X (.builtin "isinstance") (rIsE X.K D a) := by
  rintro pins s st hp xs us Q I r ⟨y, yv, b, rfl, one, hb, q⟩
  match us, r with
  | [u1, u2], .cons r1 (.cons r2 .nil) =>
    obtain rfl := one _ r2
    obtain rfl : u1 = Value.ref a := r1
    have there := (I.pin (a, oe) (List.mem_append.mpr (.inl hm))).1
    obtain ⟨vs, hv⟩ := hf
    have at_ : PySem.W.InstAt s.heap a oe D none := by
      obtain ⟨c0, d0, data0, slots0⟩ := oe
      obtain ⟨z1, z2⟩ := hz
      dsimp only at z1 z2 hv
      subst z1; subst z2; subst hv
      exact ⟨there, rfl, rfl, trivial⟩
    have kit := PySem.W.handS_kitx_exc (x := a) (ox := oe) C.hg C.hk C.hs C.hd C.ha C.hn C.ht C.hm
    refine PySem.W.kia_one kit I.kIn at_ hb (fun z => by cases z) fun tk => ?_
    exact ⟨.bl b, hp, I.kept (t' := tk) fun _ _ z => z, rfl, q⟩
structure FnE (P : Program) (w : World) (K : PySem.W.Frag) (mg : Str → Option Value) (base : Heap) (CX : CXT) (k : Nat) (f : Addr) (fd : FuncData) (ps : List Str) (sp : Addr × Obj → Sp) : Prop where
  len : ∀ p vs H Q E, sp p vs H Q E → vs.length = ps.length
  run : ∀ (A : Around) (outer : List Env) (s : Shared) (H : Hp) (args : Args) (us : List Value) (vs : List V) (Q : VK) (E : XK) (p : Addr × Obj), RoomH k A → Hot1 A p → PinOk outer H s p → Env0 P w K mg base A outer s H →
    BindsTo s fd args (ps.zip us) → Vals vs us → sp p vs H Q E → codeAny (model P w) A (.call (.ref f) args) (CR CX outer P w H s Q E) s
section
variable {CX : CXT} {P : Program} {w : World} {K : PySem.W.Frag} {mg : Str → Option Value} {base : Heap} {k : Nat} {f : Addr} {N ps : List Str} {sp : Addr × Obj → Sp}
theorem fn_ofE {name qual : Str} {params : Arguments} {body : List Stmt} {scope : Scope} {v1 v2 v3 v4 cd v5 oc : Value} {an od : Option Addr} {sl : Array (Option Value)} (lk : K.lookup f = some ⟨oc, od, .func (PySem.W.fnOf name qual params body scope v1 v2 v3 v4 an cd v5), sl⟩)
    (hcd : PySem.W.codeIn K cd qual = true) (S : FnScope N ps scope) (hl : ∀ p vs H Q E, sp p vs H Q E → vs.length = ps.length)
    (hb : ∀ (A : Around) (outer : List Env) (s : Shared) (H : Hp) (vs : List V) (Q : VK) (E : XK) (p : Addr × Obj), Hot1 A p → RoomH k (A.deeper (envOfC qual scope s.heap.objs.size f cd)) → sp p vs H Q E →
      ∃ t, PSs (cxH CX P w K mg base N qual scope f cd A outer s H E p) body t ∧ t { nx := fun _ H' => Q .non H', rt := Q } (L2.start N vs) H) :
    FnE P w K mg base CX (k + 1) f (PySem.W.fnOf name qual params body scope v1 v2 v3 v4 an cd v5) ps sp := by
  refine ⟨hl, fun A outer s H args us vs Q E p room hot pin e0 binds rel wish => ?_⟩
  have frag : K.In s.heap := e0.mod.kin.keeps fun b o e => (e0.bs b o e).1
  have unl : s.heap.NoLimit := e0.mod.nolimit.keeps fun b o e => (e0.bs b o e).1
  have kinds : ∀ y ∈ ps.zip us, scope.names.lookup y.1 = some .local ∨ (scope.names.lookup y.1 = some .cell ∧ ((cellsFrom (s.heap.objs.size + 1) scope.names []).lookup y.1).isSome = true) := by
    rintro ⟨y, v⟩ hy
    have hm := (List.of_mem_zip hy).1
    exact (S.par y hm).imp id fun c => ⟨c, PySem.W.cellsFrom_some _ _ _ (.inl c)⟩
  refine codeAny_call_function room.depth (frag _ _ lk) rfl S.co S.gen rfl (PySem.W.codeRec_of frag hcd) (binds _ _ _ _ ?_)
  refine wpAny_newFunctionEnv_cells S.kind kinds fun env he s1 start => ?_
  subst he
  refine ⟨unl.keeps start.toInCall.keep, codeAny_func ?_⟩
  obtain ⟨t, ht, ready⟩ := hb A outer s H vs Q E p hot (room.deeper _) wish
  have I := inv_startH (CX := CX) (qual := qual) (f := f) (cd := cd) (E := E) S pin e0 (hl _ _ _ _ _ wish) rel start
  have out : ∀ {st : St} {hp : Hp} {v : V} {u : Value} {s2 : Shared}, Inv (cxH CX P w K mg base N qual scope f cd A outer s H E p) [] st hp s2 → RelV v u → Q v hp → CE outer P w H s Q u s2 := fun J r q => ⟨_, _, J.os, J.bare, J.base, J.hok, r, q⟩
  refine wpAny_mono (ht.run [] s1 (L2.start N vs) H _ I ready) (fun fl s2 done => ?_) fun _ _ z => z
  cases fl with
  | next => obtain ⟨st, hp, J, q⟩ := done; exact out (v := V.non) J rfl q
  | ret u => obtain ⟨v, st, hp, J, r, q⟩ := done; exact out J r q
  | brk => obtain ⟨_, _, _, q⟩ := done; exact False.elim q
  | cont => obtain ⟨_, _, _, q⟩ := done; exact False.elim q
end
def HotP (X : Cx) (p : Addr × Obj) : Prop := Hot1 X.A p ∧ p ∈ X.pn
section
variable {X : Cx} {CX : CXT} {k : Nat} {f : Addr} {fd : FuncData} {ps : List Str} {sp : Addr × Obj → Sp} {E : St → XK} {x : Str} {q pos : Pos} {e : Expr} {es : List Expr} {t : TA} {p : Addr × Obj}
theorem run_fnE {pins : List (Addr × Obj)} {σ : St} {H : Hp} {s : Shared} {Q : VK} {us : List Value} {vs : List V} (F : FnE X.prog X.w X.K X.mg X.base CX k f fd ps sp) (hr : RoomH k X.A) (hc : HotP X p) (hb : Binds X.K fd ps []) (hx : PassesAt CX X σ (E σ)) (I : Inv X pins σ H s) (r : Vals vs us)
    (h : sp p vs H Q (E σ)) : wpAny (model X.prog X.w) X.A (call (.ref f) us) (EP X pins σ Q) X.xe s := by
  obtain ⟨hot, mem⟩ := hc
  have many : us.length = ps.length := r.length.symm.trans (F.len _ _ _ _ _ h)
  have bound := hb s us I.kIn (by rw [List.append_nil]; exact many)
  rw [List.append_nil] at bound
  obtain ⟨a1, a2, a3, a4, a5⟩ := I.pin p (List.mem_append_left _ mem)
  have off : p.1 ∉ frs X.stack := fun hm => by
    rcases List.mem_cons.mp (I.stkSub p.1 hm) with z | z
    · exact a3 z
    · exact a4 z
  refine wpAny_call (codeAny_mono (F.run X.A X.stack s H ⟨us, []⟩ us vs Q (E σ) p hr hot ⟨a1, a2, off, a5⟩ I.env0 bound r h) fun res s2 done => ?_)
  match res, done with
  | .error u, done => exact hx pins H s u s2 I done
  | .ok (.ret u), done => exact I.after done
  | .ok .next, done => exact False.elim done
  | .ok .brk, done => exact False.elim done
  | .ok .cont, done => exact False.elim done
def tCallE (p : Addr × Obj) (sp : Addr × Obj → Sp) (E : St → XK) (t : TA) : TE := fun σ H Q => t σ H fun vs H1 => sp p vs H1 Q (E σ)
theorem pe_callE (F : FnE X.prog X.w X.K X.mg X.base CX k f fd ps sp) (hr : RoomH k X.A) (hc : HotP X p) (hg : Gl X x) (hm : X.mg x = some (.ref f)) (hk : PySem.W.keepIn X.K (.ref f) = true) (hb : Binds X.K fd ps []) (hx : ∀ σ, PassesAt CX X σ (E σ)) (ha : PA X (e :: es) t)
    (hdb : (x == ("__debug__" : Str)) = false := by decide) (he : starEach (e :: es) X.env = (false, eval e X.env) :: starEach es X.env := by rfl) (hpl : (backTo pos (starEach es X.env)).any (·.1) = false := by rfl) : PE X (.Call (.Name x q) (e :: es) [] pos) (tCallE p sp E t) := by
  refine ⟨fun pins s σ H Q I h => wpAny_Call_Name_kw (ld_glob I hg hm ?_ hdb)⟩
  refine PySem.W.callWith_K (h₀ := X.base) I.ok.mod.kin hk (thn (ha.run pos pins s σ H _ I h) fun us s1 ⟨vs, H1, I1, r, wish⟩ => ?_) he hpl
  exact ⟨I1.kIn, run_fnE F hr hc hb (hx σ) I1 r wish⟩
end
end Tri
end

section
set_option maxRecDepth 100000
set_option maxHeartbeats 2000000
namespace Tri
open PySem PySem.Spec L2
open L2H hiding St
open PyProof.Rows hiding St
abbrev Grow (H H' : Hp) : Prop := ∀ b o, H b = some o → H' b = some o
section
variable {X : Cx} {a : Addr}
def Ans (X : Cx) (a : Addr) (e : Expr) (b : Bool) : Prop := ∃ t, PE X e t ∧ ∀ (σ : St) (H : Hp) (Q : VK), σ[0]? = some (some (.ref a)) → Q (.bl b) H → t σ H Q
theorem ans_is {D C : Addr} {oe : Obj} {y x : Str} {b : Bool} {p1 p2 p3 pos : Pos} (K : ExcC X.K D) (hm : (a, oe) ∈ X.pn) (hz : Zc (.ref D) none oe) (hf : ∃ vs, oe.data = .fields vs) (hg : Gl X "isinstance") (hi : X.mg "isinstance" = none) (h0 : X.N[0]? = some y) (hv : Vis X.env.scope y)
    (hc : Gl X x) (hC : X.mg x = some (.ref C)) (hb : PySem.W.kitOne X.K (.ref D) (.ref C) = some b) (hd : (x == ("__debug__" : Str)) = false := by decide) (hd1 : (y == ("__debug__" : Str)) = false := by decide) (hd2 : (y == ("__classdict__" : Str)) = false := by decide)
    (he : starEach [.Name y p2, .Name x p3] X.env = (false, eval (.Name y p2) X.env) :: starEach [.Name x p3] X.env := by rfl) (he2 : starEach [.Name x p3] X.env = [(false, eval (.Name x p3) X.env)] := by rfl) (hpl : (backTo pos (starEach [.Name x p3] X.env)).any (·.1) = false := by rfl) :
    Ans X a (.Call (.Name "isinstance" p1) [.Name y p2, .Name x p3] [] pos) b := by
  refine ⟨_, pe_callB (call_isP K hm hz hf) hg hi (by decide +kernel) (pa_cons (pe_var h0 hv hd1 hd2) (pa_cons (pe_glob (v := V.ref C) hc hC rfl hd) pa_nil he2) he) (by decide) (by decide) he hpl, ?_⟩
  intro σ H Q hs q
  exact ⟨_, hs, V.ref C, .ref C, b, rfl, fun u r => r, hb, q⟩
def AnsL (X : Cx) (a : Addr) (es : List Expr) (bs : List Bool) : Prop := ∃ t, PA X es t ∧ ∀ (σ : St) (H : Hp) (Q : List V → Hp → Prop), σ[0]? = some (some (.ref a)) → Q (bs.map .bl) H → t σ H Q
theorem ansl_nil : AnsL X a [] [] := ⟨_, pa_nil, fun σ H Q _ q => q⟩
theorem ansl_cons {e : Expr} {es : List Expr} {b : Bool} {bs : List Bool} (h : Ans X a e b) (r : AnsL X a es bs) (hs : starEach (e :: es) X.env = (false, eval e X.env) :: starEach es X.env := by rfl) : AnsL X a (e :: es) (b :: bs) := by
  obtain ⟨t, h1, h2⟩ := h
  obtain ⟨ts, r1, r2⟩ := r
  exact ⟨_, pa_cons h1 r1 hs, fun σ H Q hσ q => h2 σ H _ hσ (r2 σ H _ hσ q)⟩
def LstE (X : Cx) (a : Addr) (b0 : Option (List Bool)) (e : Expr) (bs : List Bool) : Prop := ∃ t, PE X e t ∧ ∀ (σ : St) (H : Hp) (Q : VK), σ[0]? = some (some (.ref a)) → (∀ b1, b0 = some b1 → ∃ l, σ[1]? = some (some (.ref l)) ∧ H l = some (.lst (b1.map .bl))) →
  (∀ l H', Grow H H' → H l = none → H' l = some (.lst (bs.map .bl)) → Q (.ref l) H') → t σ H Q
theorem lst_disp {b0 : Option (List Bool)} {es : List Expr} {bs : List Bool} {pos : Pos} (h : AnsL X a es bs) (hl : bs.length ≤ 1000) : LstE X a b0 (.List es pos) bs := by
  obtain ⟨t, h1, h2⟩ := h
  refine ⟨_, pe_lst h1, fun σ H Q hσ _ q => h2 σ H _ hσ ⟨by rw [List.length_map, sizeLine_eq]; omega, fun p hp => q p _ (fun b o e => ?_) hp upd_same⟩⟩
  have : b ≠ p := fun z => by rw [z, hp] at e; cases e
  rw [upd_ne this]; exact e
theorem lst_cat {b1 bs : List Bool} {e : Expr} {x : Str} {p1 pos : Pos} (h1 : X.N[1]? = some x) (hv : Vis X.env.scope x) (h : LstE X a none e bs) (hl : b1.length + bs.length ≤ 1000) (hd1 : (x == ("__debug__" : Str)) = false := by decide) (hd2 : (x == ("__classdict__" : Str)) = false := by decide) : LstE X a (some b1) (.BinOp (.Name x p1) .Add e pos) (b1 ++ bs) := by
  obtain ⟨t, k1, k2⟩ := h
  refine ⟨_, pe_op op_cat (pe_var h1 hv hd1 hd2) k1, fun σ H Q hσ h0 q => ?_⟩
  obtain ⟨l1, e1, e2⟩ := h0 b1 rfl
  refine ⟨_, e1, k2 σ H _ hσ (fun _ z => by cases z) fun l H' g n k => ?_⟩
  refine ⟨l1, l, _, _, rfl, rfl, g _ _ e2, k, by rw [List.length_map, List.length_map, sizeLine_eq]; omega, fun p hp => q p _ (fun b o z => ?_) ?_ ?_⟩
  · have z' := g b o z
    have : b ≠ p := fun y => by rw [y, hp] at z'; cases z'
    rw [upd_ne this]; exact z'
  · cases z : H p with
    | none => rfl
    | some o => have := g p o z; rw [hp] at this; cases this
  · rw [upd_same, List.map_append]
def Mk (X : Cx) (a : Addr) (b0 : Option (List Bool)) (sts : List Stmt) (bs : List Bool) : Prop := ∃ t, PSs X sts t ∧ ∀ (D : Ends) (σ : St) (H : Hp), σ[0]? = some (some (.ref a)) → 1 < σ.length → (∀ b1, b0 = some b1 → ∃ l, σ[1]? = some (some (.ref l)) ∧ H l = some (.lst (b1.map .bl))) →
  (∀ l H', Grow H H' → H l = none → H' l = some (.lst (bs.map .bl)) → D.rt (.ref l) H') → t D σ H
theorem mk_ret {b0 : Option (List Bool)} {e : Expr} {bs : List Bool} {pos : Pos} (h : LstE X a b0 e bs) : Mk X a b0 [.Return (some e) pos] bs := by
  obtain ⟨t, h1, h2⟩ := h
  exact ⟨_, pss_one (ps_ret h1), fun D σ H hσ _ h0 q => h2 σ H _ hσ h0 q⟩
theorem mk_set {b0 : Option (List Bool)} {e : Expr} {b1 bs : List Bool} {x : Str} {p1 pos : Pos} {sts : List Stmt} (hN : X.N.Nodup) (hi : X.N[1]? = some x) (hx : X.env.scope.names.lookup x = some .local) (h : LstE X a b0 e b1) (r : Mk X a (some b1) sts bs) (hs : swapsWith e (some (.Name x p1)) pos.line X.env = pure false := by rfl) : Mk X a b0 (.Assign [.Name x p1] e pos :: sts) bs := by
  obtain ⟨t, h1, h2⟩ := h
  obtain ⟨ts, r1, r2⟩ := r
  refine ⟨_, pss_cons (ps_set hN hi (.inl hx) h1 hs (.inr hx)) r1, fun D σ H hσ hl h0 q => h2 σ H _ hσ h0 fun l H' g n k => ?_⟩
  refine r2 D (σ.set 1 (some (.ref l))) H' (by rw [List.getElem?_set_ne (by decide)]; exact hσ) (by rw [List.length_set]; exact hl) (fun b z => ?_) fun l2 H2 g2 n2 k2 => q l2 H2 (fun b o e => g2 _ _ (g _ _ e)) ?_ k2
  · cases z
    exact ⟨l, List.getElem?_set_self hl, k⟩
  · cases z : H l2 with
    | none => rfl
    | some o => have := g l2 o z; rw [n2] at this; cases this
end
end Tri
end

section
set_option maxRecDepth 100000
set_option maxHeartbeats 2000000
namespace Tri
open PySem PySem.Spec HotX
open PyProof.Rows hiding St
section
variable {prog : Program} {w : World} {A : Around} {E : Value → Shared → Prop} {s : Shared} {x1 : Addr}
theorem hot_kept {h h' : Heap} (hot : HotAt A x1 h) (k : ∀ o, h.get? x1 = some o → h'.get? x1 = some o) : HotAt A x1 h' := by
  obtain ⟨a, o, vs, b, c, d⟩ := hot
  exact ⟨a, o, vs, k o b, c, d⟩
theorem list_over_hot {it l : Addr} {k : Nat} {ws : Array Value} {Q : Value → Shared → Prop} (hot : HotAt A x1 s.heap) (ne : x1 ≠ it) (hi : s.heap.IsListIter it l k) (hl : s.heap.IsList l ws) (e : ws[k]? = none)
    (hE : ∀ h' a, Heap.ExtBut it s.heap h' → (∃ o, h'.get? a = some o ∧ o.cls = .type "StopIteration") → E (.ref a) { s with heap := h' }) : wpAny (model prog w) A (Builtin.SmallTypes.nextOf (.ref it)) Q E s := by
  have ty := hi.typeIs
  obtain ⟨o, ho, hc, hd⟩ := id hi
  obtain ⟨ol, hol, _, _, hdl⟩ := hl
  unfold Builtin.SmallTypes.nextOf
  refine wpAny_bind (wpAny_callSpecial?_slot (name := Str.ofString "__next__") ty slot_listiter_next (wpAny_call_entry slot_listiter_next ty entry_listiter_next ?_ (args_listiter_next _)))
  show wpAny _ _ (field (.ref it) 0 >>= _) _ _ s
  refine wpAny_bind (wpAny_field ho hd (x := .ref l) rfl (show wpAny _ _ (if (Value.ref l == Value.none) = true then _ else _) _ _ s from ?_))
  rw [if_neg (show ¬ (Value.ref l == Value.none) = true from fun z => by cases z)]
  refine wpAny_bind (wpAny_field ho hd (x := .int k 0) rfl (wpAny_bind (wpAny_seqItems hol hdl ?_)))
  simp only [Int.toNat_natCast, e]
  refine wpAny_bind (wpAny_rule (wpAny_bind (wpAny_setField ho hd (by simp) ?_)))
  refine wpAny_bind (show wpAny _ _ (newExc (.type "StopIteration") []) _ _ _ from ?_)
  unfold newExc newTuple
  refine wpAny_bind (wpAny_newObj_type ?_ (by size_fits))
  refine wpAny_bind (m := firstArgMember _ _) (wpAny_of_eq (a := Value.none) (by first | rfl | (unfold firstArgMember; rfl)) (wpAny_newObj_type ?_ (by size_fits)))
  have up : ∀ u, s.heap.get? x1 = some u → (s.heap.update it (Obj.mapFields (·.setIfInBounds 0 Value.none))).get? x1 = some u := fun u hu => by
    rw [Heap.get?_update_other _ _ (Ne.symm ne)]; exact hu
  obtain ⟨hh, oo, vs, q1, q2, q3⟩ := hot
  have q4 := up _ q1
  have q5 := Heap.get?_push_of_some ({ cls := .type "tuple", data := .seq #[] } : Obj) q4
  refine raiseNew_hot (x1 := x1) ⟨hh, oo, vs, Heap.get?_push_of_some _ q5, q2, q3⟩ (Nat.ne_of_lt (Heap.lt_size q5)) (Heap.get?_push_size _ rfl) rfl (by first | (simp; done) | (simp; omega)) ?_
  refine hE _ _ (fun c u hc hu => ?_) ⟨_, Heap.get?_update_self _ (Heap.get?_push_size _ rfl) rfl, rfl⟩
  have r1 : (s.heap.update it (Obj.mapFields (·.setIfInBounds 0 Value.none))).get? c = some u := by
    rw [Heap.get?_update_other _ _ (Ne.symm hc)]; exact hu
  have r2 := Heap.get?_push_of_some ({ cls := .type "tuple", data := .seq #[] } : Obj) r1
  rw [Heap.get?_update_other _ _ (Nat.ne_of_gt (Heap.lt_size r2))]
  exact Heap.get?_push_of_some _ r2
theorem zip_over_hot {z TI TO i1 i2 l1 l2 : Addr} {k1 k2 : Nat} {xs ys : Array Value} {a b : Value} {Q : PySem.Fin → Shared → Prop} (hot : HotAt A x1 s.heap) (nz : x1 ≠ z) (n1 : x1 ≠ i1) (D : ZipApart z TI TO i1 i2 l1 l2) (hz : IsZip s.heap z TI TO .none) (hTI : IsPair s.heap TI (.ref i1) (.ref i2))
    (hTO : IsPair s.heap TO a b) (h1 : s.heap.IsListIter i1 l1 k1) (hl1 : s.heap.IsList l1 xs) (hx : xs[k1]? = none)
    (hE : ∀ h' e, (∀ c o, c ≠ z → c ≠ i1 → s.heap.get? c = some o → h'.get? c = some o) → (∃ o, h'.get? e = some o ∧ o.cls = .type "StopIteration") → E (.ref e) { s with heap := h' }) : wpAny (model prog w) A (Builtin.«zip.__next__» ⟨[.ref z], []⟩) Q E s := by
  show wpAny _ _ (field (.ref z) 2 >>= _) _ _ _
  refine wpAny_bind (wpAny_field hz rfl (x := .bool false) rfl (show wpAny _ _ (field (.ref z) 3 >>= _) _ _ _ from ?_))
  refine wpAny_bind (wpAny_field hz rfl (x := .ref TI) rfl (wpAny_bind (wpAny_seqItems hTI rfl ?_)))
  refine wpAny_bind (show wpAny _ _ (Builtin.SmallTypes.ownedTupleIsFree (.ref z)) _ _ _ from ?_)
  unfold Builtin.SmallTypes.ownedTupleIsFree
  refine wpAny_bind (wpAny_field hz rfl (x := .none) rfl (wpAny_pure ?_))
  simp only [if_true]
  refine wpAny_bind (wpAny_rule (wpAny_bind (wpAny_field hz rfl (x := .ref TO) rfl ?_)))
  refine wpAny_bind (wpAny_setField_rec hz (by simp) fun g1 z1 c1 => wpAny_bind ?_)
  simp only [List.zipIdx_cons, List.zipIdx_nil, List.forIn_cons, List.forIn_nil]
  refine wpAny_bind (wpAny_bind (wpAny_onRaise (show wpAny _ _ (Builtin.SmallTypes.nextOf (.ref i1) >>= _) _ _ _ from ?_)))
  have hot1 : HotAt A x1 g1 := hot_kept hot fun o e => c1.extBut _ _ nz e
  refine wpAny_bind (list_over_hot (s := { s with heap := g1 }) hot1 n1 (h1.extBut c1.extBut D.i1z) (hl1.extBut c1.extBut D.l1z) hx fun g2 e c2 ⟨oe, e1, e2⟩ => ?_)
  have z2 := c2 _ _ D.i1z.symm z1
  have ez : e ≠ z := fun q => by subst q; rw [z2] at e1; cases e1; simp at e2
  exact wpAny_setField_rec z2 (by simp) fun g3 _ c3 => hE g3 e (fun c o n1 n2 q => c3.extBut _ _ n1 (c2 _ _ n2 (c1.extBut _ _ n1 q))) ⟨oe, c3.extBut _ _ ez e1, e2⟩
theorem zip_none_hot {z TI TO i1 i2 l1 l2 : Addr} {k1 k2 : Nat} {xs ys : Array Value} {a b : Value} {Q : Option Value → Shared → Prop} (hot : HotAt A x1 s.heap) (nz : x1 ≠ z) (n1 : x1 ≠ i1) (D : ZipApart z TI TO i1 i2 l1 l2) (hz : IsZip s.heap z TI TO .none) (hTI : IsPair s.heap TI (.ref i1) (.ref i2))
    (hTO : IsPair s.heap TO a b) (h1 : s.heap.IsListIter i1 l1 k1) (hl1 : s.heap.IsList l1 xs) (hx : xs[k1]? = none)
    (hQ : ∀ h', (∀ c o, c ≠ z → c ≠ i1 → s.heap.get? c = some o → h'.get? c = some o) → Q none { s with heap := h' }) : wpAny (model prog w) A (pyNext (.ref z)) Q E s := by
  have ty : s.TypeIs (.ref z) "zip" := ⟨_, hz, rfl⟩
  unfold pyNext
  refine wpAny_bind (wpAny_attempt (wpAny_callSpecial?_slot (name := Str.ofString "__next__") ty F.slot_zip_next (wpAny_call_entry F.slot_zip_next ty F.entry_zip_next (zip_over_hot (k2 := k2) (ys := ys) hot nz n1 D hz hTI hTO h1 hl1 hx fun h' e q1 ⟨o, q2, q3⟩ => ?_) (F.args_zip_next_1 _))))
  exact wpAny_bind (wpAny_isInstance (T := "StopIteration") (b := true) ⟨o, q2, q3⟩ isSubtype_stop (wpAny_pure (hQ _ q1)))
end
end Tri
end

section
set_option maxRecDepth 100000
set_option maxHeartbeats 2000000
namespace Tri
open PySem PySem.Spec L2 HotX
open L2H hiding St
open PyProof.Rows hiding St
structure TurnA (P : Program) (w : World) (K : PySem.W.Frag) (tg : Expr) (J : It) (fp : List Addr) (it : Addr) (tn : Nat → Heap → Prop) : Prop where
  mem : it ∈ fp
  obj : ∀ i h, tn i h → ∀ b ∈ fp, ∃ o, h.get? b = some o ∧ ∀ v, o.data ≠ .cell v
  keep : ∀ i h h', tn i h → (∀ b ∈ fp, ∀ o, h.get? b = some o → h'.get? b = some o) → tn i h'
  item : ∀ (X : Cx), X.prog = P → X.w = w → X.K = K → ∀ (i : Nat) (pins : List (Addr × Obj)) (s : Shared) (σ : St) (H : Hp) (E : Value → Shared → Prop), Inv X pins σ H s → (∀ b ∈ fp, FpOk X pins H b) → tn i s.heap → J.go i H →
    wpAny (model P w) X.A (pyNext (.ref it)) (fun r s1 => ∃ u, r = some u ∧ wpAny (model P w) X.A (letOwnedTupleGo tg (.ref it) u) (fun _ s2 => ∃ x H', Inv X pins σ H' s2 ∧ RelV x u ∧ J.yld i H x H' ∧ tn (i + 1) s2.heap ∧ ∀ b ∈ fp, H' b = none) E s1) E s
  done : ∀ (X : Cx), X.prog = P → X.w = w → X.K = K → ∀ (i : Nat) (x1 : Addr) (pins : List (Addr × Obj)) (s : Shared) (σ : St) (H : Hp) (E : Value → Shared → Prop), HotAt X.A x1 s.heap → x1 ∉ fp → Inv X pins σ H s → (∀ b ∈ fp, FpOk X pins H b) → tn i s.heap → J.stop i H →
    wpAny (model P w) X.A (pyNext (.ref it)) (fun r s1 => r = none ∧ Inv X pins σ H s1) E s
  self : ∀ (A : Around) (i : Nat) (s : Shared) (Q : Value → Shared → Prop) (E : Value → Shared → Prop), tn i s.heap → Q (.ref it) s → wpAny (model P w) A (pyIter (.ref it)) Q E s
def Itw (K : PySem.W.Frag) (a b : Addr) : It := ⟨(Itz K a b).go, (Itz K a b).yld, fun i H => ∃ xs ys, SqL K H a xs ∧ SqL K H b ys ∧ xs.length ≤ i⟩
structure ZipAt (h : Heap) (z TI TO i1 i2 a b : Addr) (k : Nat) : Prop where
  z : IsZip h z TI TO .none
  ti : IsPair h TI (.ref i1) (.ref i2)
  to : ∃ x y, IsPair h TO x y
  i1 : h.IsListIter i1 a k
  i2 : h.IsListIter i2 b k
theorem ZipAt.there {h : Heap} {z TI TO i1 i2 a b c : Addr} {k : Nat} (t : ZipAt h z TI TO i1 i2 a b k) (hc : c ∈ [z, TI, TO, i1, i2]) : ∃ o, h.get? c = some o ∧ ∀ v, o.data ≠ .cell v := by
  obtain ⟨t1, t2, ⟨x, y, t3⟩, ⟨o1, u1, _, u2⟩, ⟨o2, v1, _, v2⟩⟩ := t
  have hc : c = z ∨ c = TI ∨ c = TO ∨ c = i1 ∨ c = i2 := by simpa using hc
  rcases hc with rfl | rfl | rfl | rfl | rfl
  · exact ⟨_, t1, fun v z => by cases z⟩
  · exact ⟨_, t2, fun v z => by cases z⟩
  · exact ⟨_, t3, fun v z => by cases z⟩
  · exact ⟨o1, u1, fun v z => by rw [u2] at z; cases z⟩
  · exact ⟨o2, v1, fun v z => by rw [v2] at z; cases z⟩
theorem ZipAt.keep {h h' : Heap} {z TI TO i1 i2 a b : Addr} {k : Nat} (t : ZipAt h z TI TO i1 i2 a b k) (q : ∀ c ∈ [z, TI, TO, i1, i2], ∀ o, h.get? c = some o → h'.get? c = some o) : ZipAt h' z TI TO i1 i2 a b k := by
  obtain ⟨t1, t2, ⟨x, y, t3⟩, t4, t5⟩ := t
  exact ⟨q _ (by simp) _ t1, q _ (by simp) _ t2, ⟨x, y, q _ (by simp) _ t3⟩, t4.at fun o e => q _ (by simp) o e, t5.at fun o e => q _ (by simp) o e⟩
theorem turn_zipA {P : Program} {w : World} {K : PySem.W.Frag} {elts : List Expr} {kk : Nat} {tpos : Pos} {a b z TI TO i1 i2 : Addr} (D : ZipApart z TI TO i1 i2 a b) : TurnA P w K (.Tuple elts kk tpos) (Itw K a b) [z, TI, TO, i1, i2] z (fun i h => ZipAt h z TI TO i1 i2 a b i) where
  mem := List.mem_cons_self
  obj := fun i h t c hc => t.there hc
  keep := fun i h h' t q => t.keep q
  self := fun A i s Q E t q => wpAny_pyIter_zip t.z q
  item := by
    rintro X rfl rfl rfl i pins s σ H E I free t ⟨xs, ys, x, y, sx, sy, gx, gy⟩
    obtain ⟨vs, r1, m1, _⟩ := I.list sx
    obtain ⟨ws, r2, m2, _⟩ := I.list sy
    obtain ⟨u, hu, ru⟩ := r1.get gx
    obtain ⟨v, hv, rv⟩ := r2.get gy
    obtain ⟨x0, y0, t3⟩ := t.to
    have small : ∀ c ∈ [z, TI, TO, i1, i2], c < s.heap.objs.size := fun c hc => by
      obtain ⟨o, e, _⟩ := t.there hc
      exact Heap.lt_size e
    refine wpAny_pyNext_zip_item D t.z t.ti t3 t.i1 t.i2 m1.isList m2.isList (x := u) (y := v) (by simpa using hu) (by simpa using hv) fun h1 z1 o1 j1 j2 pr _ kp => ⟨_, rfl, ?_⟩
    refine wpAny_letOwnedTupleGo_zip (s := { s with heap := h1 }) z1 fun h2 z2 sb => ?_
    have zl := small z (by simp)
    have pr2 : h2.get? s.heap.objs.size = some { cls := .type "tuple", data := .seq #[u, v] } := (sb.2 _ (Nat.ne_of_gt zl)).trans pr
    have ok : ObjOk X.prog X.w (upd H s.heap.objs.size (.tup [x, y])) h2 s.heap.objs.size (.tup [x, y]) := ⟨by show 2 ≤ sizeLine; decide, [u, v], .cons ru (.cons rv .nil), _, pr2, rfl, _, rfl⟩
    have all : ∀ c o, c ∉ [z, TI, TO, i1, i2] → s.heap.get? c = some o → h2.get? c = some o := fun c o nc e => by
      simp only [List.mem_cons, List.not_mem_nil, or_false, not_or] at nc
      exact (sb.2 c nc.1).trans (kp c o nc.1 nc.2.2.1 nc.2.2.2.1 nc.2.2.2.2 e)
    have J := I.turnedNew (t' := s.toks) all free (Nat.le_refl _) ok
    refine ⟨.ref s.heap.objs.size, _, J, rfl, ?_, ⟨z2, (sb.2 _ D.TIz).trans (kp _ _ D.TIz D.TITO D.TIi1 D.TIi2 t.ti), ⟨u, v, (sb.2 _ D.TOz).trans o1⟩, j1.at fun o e => (sb.2 _ D.i1z).trans e, j2.at fun o e => (sb.2 _ D.i2z).trans e⟩, fun c hc => ?_⟩
    · exact ⟨_, x, y, rfl, I.hok.fresh (Nat.le_refl _), rfl, fun l hl => by rw [I.list_inj hl sx]; exact gx, fun l hl => by rw [I.list_inj hl sy]; exact gy⟩
    · rw [upd_ne (Nat.ne_of_lt (small c hc))]
      exact (free c hc).1
  done := by
    rintro X rfl rfl rfl i x1 pins s σ H E hot nx I free t ⟨xs, ys, sx, sy, over⟩
    obtain ⟨vs, r1, m1, _⟩ := I.list sx
    obtain ⟨x0, y0, t3⟩ := t.to
    have e0 := r1.length
    have n1 : x1 ≠ z := fun q => nx (q ▸ List.mem_cons_self)
    have n2 : x1 ≠ i1 := fun q => nx (by rw [q]; simp)
    refine zip_none_hot (k2 := 0) (ys := #[]) hot n1 n2 D t.z t.ti t3 t.i1 m1.isList (by simp; omega) fun h' kp => ⟨rfl, I.turnedL (t' := s.toks) (ch := [z, TI, TO, i1, i2]) (fun c o nc e => kp c o (fun q => nc (by simp [q])) (fun q => nc (by simp [q])) e) free⟩
end Tri
end

section
set_option maxRecDepth 100000
set_option maxHeartbeats 2000000
namespace Tri
open PySem PySem.Spec L2 HotX
open L2H hiding St
open PyProof.Rows hiding St
structure PIA (X : Cx) (x1 : Addr) (tg iter : Expr) (wi : TI) : Prop where
  run : ∀ (pins : List (Addr × Obj)) (s : Shared) (σ : St) (H : Hp) (R : It → Hp → Prop), Inv X pins σ H s → wi σ H R →
    wpAny (model X.prog X.w) X.A (eval iter X.env) (fun v s1 => wpAny (model X.prog X.w) X.A (pyIter v) (fun itv s2 => ∃ (it : Addr) (fp : List Addr) (tn : Nat → Heap → Prop) (J : It) (H' : Hp), itv = .ref it ∧ Inv X pins σ H' s2 ∧
      TurnA X.prog X.w X.K tg J fp it tn ∧ tn 0 s2.heap ∧ (∀ b ∈ fp, FpOk X pins H' b) ∧ R J H') X.xe s1) X.xe s
def HotIn (X : Cx) (x1 : Addr) : Prop := ∀ (pins : List (Addr × Obj)) (σ : St) (H : Hp) (s : Shared), Inv X pins σ H s → HotAt X.A x1 s.heap
section
variable {X : Cx} {p : Addr × Obj} {tg elt iter : Expr} {ifs : List Expr} {scope : Scope} {own : List (Str × Nat)} {pos : Pos} {wi : TI} {g : TG} {tt : TT} {te : TE}
theorem pe_lcA (hot : HotP X p) (hN : X.N.Nodup) (hi : PIA X p.1 tg iter wi) (ok : BlkOk X.N X.env.scope scope own)
    (hg : ∀ (s : Shared) (H : Hp) (C : Addr) (cl : List (Str × Addr)) (fp : List Addr), HotIn (X.blk s H scope (compEnvC scope cl C X.env) fp) p.1 → PG (X.blk s H scope (compEnvC scope cl C X.env) fp) tg g)
    (ht : ∀ (s : Shared) (H : Hp) (C : Addr) (cl : List (Str × Addr)) (fp : List Addr), HotIn (X.blk s H scope (compEnvC scope cl C X.env) fp) p.1 → PTs (X.blk s H scope (compEnvC scope cl C X.env) fp) ifs tt)
    (he : ∀ (s : Shared) (H : Hp) (C : Addr) (cl : List (Str × Addr)) (fp : List Addr), HotIn (X.blk s H scope (compEnvC scope cl C X.env) fp) p.1 → PE (X.blk s H scope (compEnvC scope cl C X.env) fp) elt te)
    (hs : ∀ x, foldedSetIterable iter X.env x = pure x := by intro _; rfl) : PE X (.ListComp elt [⟨tg, iter, ifs, 0⟩] scope pos) (tLc wi g tt te (own.map (·.2))) := by
  refine ⟨fun pins s σ H Q I h => ?_⟩
  rw [eval_ListComp]
  obtain ⟨⟨hh, vs0, dv, cv⟩, mem⟩ := hot
  have seen : ∀ y ∈ scope.names, y.2 = .free → ∃ c, X.env.cells.lookup y.1 = some c := fun y hy e => (ok.free y hy e).elim (fun k => I.ok.has _ (.inl k)) fun k => I.ok.has _ (.inr k)
  refine wpAny_comprehension_free (use := none) rfl hs (closure_ok seen) ok.kind (fun y hy e => by rw [ok.uniq y hy, e]) ?_
  refine thn (hi.run pins s σ H _ I h) fun xv s1 hx => thn hx fun itv s2 h2 => ?_
  obtain ⟨it, fp, tn, J, H2, rfl, I2, T, st2, f2, q⟩ := h2
  refine wpAny_newObj_type (newEnv_comp ?_) (by show 0 ≤ sizeLine; decide)
  generalize hD : s2.heap.objs.size = Dd
  have new : H2 Dd = none := I2.hok.fresh (Nat.le_of_eq hD)
  obtain ⟨W, ⟨m0, w0⟩, turn⟩ := q Dd new
  generalize hs3 : ({ s2 with heap := s2.heap.push { cls := .type "list", data := .seq ([] : List Value).toArray } } : Shared) = s3
  have eh : s3.heap = s2.heap.push { cls := .type "list", data := .seq ([] : List Value).toArray } := by rw [← hs3]
  have I3 : Inv X pins σ (upd H2 Dd (.lst [])) s3 := by
    rw [← hs3]
    refine I2.laid (t' := s2.toks) (fun b o e => Heap.get?_push_of_some _ e) (Nat.le_of_eq hD) ⟨Nat.zero_le _, [], 0, .nil, ?_⟩
    rw [← hD]; exact Heap.get?_push_size _ rfl
  have f3 : ∀ b ∈ fp, FpOk X pins (upd H2 Dd (.lst [])) b ∧ b < s3.heap.objs.size := fun b hb => by
    obtain ⟨o, e, _⟩ := T.obj _ _ st2 b hb
    have lt : b < Dd := by rw [← hD]; exact Heap.lt_size e
    have nb : b ≠ Dd := Nat.ne_of_lt lt
    exact ⟨⟨by rw [upd_ne nb]; exact (f2 b hb).1, (f2 b hb).2⟩, by rw [eh, Heap.size_push, hD]; exact Nat.lt_succ_of_lt lt⟩
  have st3 : tn 0 s3.heap := T.keep _ _ _ st2 fun b _ o e => by rw [eh]; exact Heap.get?_push_of_some _ e
  have I4 := block_start I3 ok hN f3
  obtain ⟨a1, a2, a3, a4, a5⟩ := I3.pin p (List.mem_append_left _ mem)
  have off : p.1 ∉ frs X.stack := fun hm => (List.mem_cons.mp (I3.stkSub p.1 hm)).elim a3 a4
  have nf : p.1 ∉ fp := fun hm => (f3 p.1 hm).1.2.2.2.2.2 p (List.mem_append_left _ mem) rfl
  have stillB : HotIn (X.blk s3 (upd H2 Dd (.lst [])) scope (compEnvC scope (cellsFrom (s3.heap.objs.size + 1) scope.names (cloFrom X.env.cells scope.names [])) s3.heap.objs.size X.env) fp) p.1 := fun pp σ' H' s' J' => ⟨hh, p.2, vs0, J'.base.keep p.1 p.2 a1 a2 off nf, dv, cv⟩
  have pg := hg s3 (upd H2 Dd (.lst [])) s3.heap.objs.size (cellsFrom (s3.heap.objs.size + 1) scope.names (cloFrom X.env.cells scope.names [])) fp stillB
  have pt := ht s3 (upd H2 Dd (.lst [])) s3.heap.objs.size (cellsFrom (s3.heap.objs.size + 1) scope.names (cloFrom X.env.cells scope.names [])) fp stillB
  have pe := he s3 (upd H2 Dd (.lst [])) s3.heap.objs.size (cellsFrom (s3.heap.objs.size + 1) scope.names (cloFrom X.env.cells scope.names [])) fp stillB
  show codeAny _ _ (.compStart (.ListComp elt [⟨tg, iter, ifs, 0⟩] scope pos) 0 (.ref it) (.ref Dd) (compEnvC scope (cellsFrom (s3.heap.objs.size + 1) scope.names (cloFrom X.env.cells scope.names [])) s3.heap.objs.size X.env))
    (compPost (model X.prog X.w) X.A X.xe none _ (.ref Dd) s3.heap.objs.size) { s3 with heap := pushCells (s3.heap.push { cls := .type "dict", data := .dict #[] }) scope.names }
  have nfp : ∀ b ∈ fp, (upd H2 Dd (.lst [])) b = none := fun b hb => (f3 b hb).1.1
  generalize hce : compEnvC scope (cellsFrom (s3.heap.objs.size + 1) scope.names (cloFrom X.env.cells scope.names [])) s3.heap.objs.size X.env = ce at I4 pg pt pe stillB ⊢
  have cL : ce.locals = s3.heap.objs.size := by subst hce; rfl
  generalize hH3 : upd H2 Dd (.lst []) = H3 at I3 I4 pg pt pe w0 nfp f3 a2 stillB
  generalize hs4 : ({ s3 with heap := pushCells (s3.heap.push { cls := .type "dict", data := .dict #[] }) scope.names } : Shared) = s4 at I4 ⊢
  have st4 : tn 0 s4.heap := T.keep _ _ _ st3 fun b _ o e => by rw [← hs4]; exact pushCells_keeps _ _ _ _ (Heap.get?_push_of_some _ e)
  have stat : ∀ {σ' : St} {H' : Hp} {s' : Shared}, Inv (X.blk s3 H3 scope ce fp) [] σ' H' s' → (∀ b ∈ fp, H' b = none) → ∀ b ∈ fp, FpOk (X.blk s3 H3 scope ce fp) [] H' b := fun {σ' H' s'} J' n b hb =>
    ⟨n b hb, (J'.ok.exf b hb).1, J'.ok.exfs b hb, .inl hb, fun x c e => (J'.ok.exf b hb).2 x c e, fun q hq => absurd (show q ∈ ([] : List (Addr × Obj)) ++ [] from hq) (by simp)⟩
  have loop : codeAny (model X.prog X.w) X.A (.compLoop (.ListComp elt [⟨tg, iter, ifs, 0⟩] scope pos) 0 (.ref it) (.ref Dd) ce) (compPost (model X.prog X.w) X.A X.xe none (EP X pins σ Q) (.ref Dd) s3.heap.objs.size) s4 := by
    refine compLoop_any (fun n s' => ∃ i H', Inv (X.blk s3 H3 scope ce fp) [] (wipe σ (own.map (·.2))) H' s' ∧ tn i s'.heap ∧ (∀ b ∈ fp, H' b = none) ∧ W i n H') ?_ m0 ⟨0, H3, I4, st4, nfp, w0⟩
    rintro n s5 ⟨i, H5, I5, st5, n5, w5⟩
    rcases turn i n H5 w5 with ⟨stop, qq⟩ | ⟨go, Nx, hNx, step⟩
    · refine thnF (T.done (X.blk s3 H3 scope ce fp) rfl rfl rfl i p.1 [] s5 _ H5 (fun _ _ => False) (stillB _ _ _ _ I5) nf I5 (stat I5 n5) st5 stop) fun r s6 ⟨hr, I6⟩ => ?_
      subst hr
      have I7 : Inv X pins σ H5 s6 := I3.call' (ch := fp) I6.os I6.base I6.hok I6.bare fun b hb => by
        obtain ⟨_, b1, b2, b3, b4, b5⟩ := (f3 b hb).1
        exact ⟨b3, b1, b4, b5⟩
      have nC : H5 s3.heap.objs.size = none := by
        have z : H5 ce.locals = none := I6.free
        rwa [cL] at z
      obtain ⟨m, hn, _⟩ := I6.loc
      have hn : s6.heap.Ns ce.locals m := hn
      rw [cL] at hn
      refine ⟨m, hn, fun h'' sb => ?_⟩
      obtain ⟨g0, g1, g2, g3, g4, g5⟩ : FpOk X pins H5 s3.heap.objs.size := I3.fpOk (Nat.le_refl _) nC
      exact ⟨.ref Dd, H5, I7.turned (t' := s6.toks) (fun b o hb e => (sb.2 b hb).trans e) g0 g1 g3 g4 g5, rfl, qq⟩
    · refine thnF (T.item (X.blk s3 H3 scope ce fp) rfl rfl rfl i [] s5 _ H5 (fun _ _ => False) I5 (stat I5 n5) st5 go) fun r s6 ⟨u, hr, h6⟩ => ?_
      subst hr
      refine thnF h6 fun _ s7 ⟨x, H7, I7, r7, y7, st7, n7⟩ => ?_
      have J7 := I7.pinned (stat I7 n7) (T.obj _ _ st7)
      refine thnF (pg.run _ s7 _ H7 x u _ J7 r7 (step x H7 y7)) fun _ s8 ⟨σ8, H8, I8, hw8, q8⟩ => ?_
      refine thnF (pt.run _ s8 σ8 H8 _ I8 q8) fun b s9 ⟨H9, I9, q9⟩ => ?_
      have again : ∀ {s' : Shared} {H' : Hp}, Inv (X.blk s3 H3 scope ce fp) ([] ++ pinsAt fp s7.heap) σ8 H' s' → Nx H' → ∃ m, m < n ∧ ∃ i H', Inv (X.blk s3 H3 scope ce fp) [] (wipe σ (own.map (·.2))) H' s' ∧ tn i s'.heap ∧ (∀ b ∈ fp, H' b = none) ∧ W i m H' := fun {s' H'} J' nx => by
        obtain ⟨m', hm, w'⟩ := hNx H' nx
        have held : ∀ b ∈ fp, ∀ o, s7.heap.get? b = some o → s'.heap.get? b = some o ∧ H' b = none := fun b hb o e => by
          obtain ⟨k1, k2, _⟩ := J'.pin (b, o) (List.mem_append_right _ (List.mem_append_right _ (mem_pinsAt hb e)))
          exact ⟨k1, k2⟩
        have hl : (wipe σ (own.map (·.2))).length = σ8.length := by rw [← hw8, wipe_length]
        refine ⟨m', hm, i + 1, H', (J'.unpinned (pins := [])).weak hl (fun j v e => ?_), T.keep _ _ _ st7 fun b hb o e => (held b hb o e).1, fun b hb => ?_, w'⟩
        · rw [← hw8] at e; exact (wipe_some e).1
        · obtain ⟨o, e, _⟩ := T.obj _ _ st7 b hb
          exact (held b hb o e).2
      cases b with
      | false =>
        simp only [Bool.false_eq_true, if_false] at q9 ⊢
        exact again I9 q9
      | true =>
        simp only [if_true] at q9 ⊢
        refine thnF (pe.run _ s9 σ8 H9 _ I9 q9) fun z s10 ⟨yv, H10, I10, r10, acc, k1, k2, nx⟩ => ?_
        exact app_ok (X := X.blk s3 H3 scope ce fp) I10 k1 k2 r10 fun s11 I11 => again I11 nx
  exact codeAny_compStart_list loop (T.self X.A 0 _ _ _ st4 loop)
end
end Tri
end

section
set_option maxRecDepth 100000
set_option maxHeartbeats 200000
namespace Tri
open PySem PySem.Spec L2 HotX
open L2H hiding St
open PyProof.Rows hiding St
def iZipW (K : PySem.W.Frag) (ta : TA) : TI := fun σ H R => ta σ H fun vs H1 => ∃ a b xs ys, vs = [.ref a, .ref b] ∧ SqL K H1 a xs ∧ SqL K H1 b ys ∧ R (Itw K a b) H1
theorem pi_zipW {X : Cx} {x1 : Addr} {e e2 : Expr} {ta : TA} {p pos tpos : Pos} {elts : List Expr} {kk : Nat} (hg : Gl X "zip") (hm : X.mg "zip" = none) (ha : PA X [e, e2] ta)
    (hs : starEach [e, e2] X.env = (false, eval e X.env) :: starEach [e2] X.env := by rfl) (hpl : (backTo pos (starEach [e2] X.env)).any (·.1) = false := by rfl) : PIA X x1 (.Tuple elts kk tpos) (.Call (.Name "zip" p) [e, e2] [] pos) (iZipW X.K ta) := by
  refine ⟨fun pins s σ H R I h => ?_⟩
  refine Call_ (ld_blt I hg hm PyProof.Rows.boot_zip (PyProof.Rows.callWith_type1 (thn (ha.run pos pins s σ H _ I h) fun us s1 ⟨vs, H1, I1, r1, q1⟩ => ?_) hs hpl))
  obtain ⟨a, b, xs, ys, ev, sx, sy, q⟩ := q1
  subst ev
  obtain ⟨u1, u2, rfl, z1, z2⟩ : ∃ u1 u2, us = [u1, u2] ∧ u1 = Value.ref a ∧ u2 = Value.ref b := by
    cases r1 with
    | cons z1 rr =>
      cases rr with
      | cons z2 rr => cases rr; exact ⟨_, _, rfl, z1, z2⟩
  subst z1
  subst z2
  obtain ⟨vs1, _, m1, _⟩ := I1.list sx
  obtain ⟨vs2, _, m2, _⟩ := I1.list sy
  refine call_zip_2 m1.isList m2.isList fun h' k1 k2 k3 k4 k5 _ kp => wpAny_pyIter_zip k1 ?_
  have I2 : Inv X pins σ H1 { s1 with heap := h' } := I1.kept (t' := s1.toks) kp
  refine ⟨s1.heap.objs.size + 4, [s1.heap.objs.size + 4, s1.heap.objs.size + 2, s1.heap.objs.size + 3, s1.heap.objs.size, s1.heap.objs.size + 1], _, Itw X.K a b, H1, rfl, I2, turn_zipA (PySem.W.ktu_apart s1.heap.objs.size a b m1.lt m2.lt), ⟨k1, k2, ⟨_, _, k3⟩, k4, k5⟩, fun c hc => ?_, q⟩
  have hc : c = s1.heap.objs.size + 4 ∨ c = s1.heap.objs.size + 2 ∨ c = s1.heap.objs.size + 3 ∨ c = s1.heap.objs.size ∨ c = s1.heap.objs.size + 1 := by simpa using hc
  have le : s1.heap.objs.size ≤ c := by rcases hc with rfl | rfl | rfl | rfl | rfl <;> omega
  exact I1.fpOk le (I1.hok.fresh le)
end Tri
end

section
set_option maxRecDepth 100000
set_option maxHeartbeats 400000
namespace Tri
open PySem PySem.Spec HotX
open PyProof.Rows hiding St
section
variable {prog : Program} {w : World} {A : Around} {E : Value → Shared → Prop} {s : Shared} {x1 : Addr}
theorem tup_none_hot {it t : Addr} {i : Nat} {items : Array Value} {Q : Option Value → Shared → Prop} (hot : HotAt A x1 s.heap) (ne : x1 ≠ it) (hi : IsTupIter s.heap it t i) (ht : IsTup s.heap t items) (e : items[i]? = none)
    (hQ : ∀ h', Heap.ExtBut it s.heap h' → Q none { s with heap := h' }) : wpAny (model prog w) A (pyNext (.ref it)) Q E s := by
  have ty := hi.typeIs
  obtain ⟨o, ho, hc, hd⟩ := id hi
  obtain ⟨ol, hol, _, _, hdl⟩ := ht
  unfold pyNext
  refine wpAny_bind (wpAny_attempt (wpAny_callSpecial?_slot (name := Str.ofString "__next__") ty slot_tupleiter_next (wpAny_call_entry slot_tupleiter_next ty entry_tupleiter_next ?_ (args_tupleiter_next _))))
  show wpAny _ _ (field (.ref it) 0 >>= _) _ _ s
  refine wpAny_bind (wpAny_field ho hd (x := .ref t) rfl (show wpAny _ _ (if (Value.ref t == Value.none) = true then _ else _) _ _ s from ?_))
  rw [if_neg (show ¬ (Value.ref t == Value.none) = true from fun z => by cases z)]
  refine wpAny_bind (wpAny_field ho hd (x := .int i 0) rfl (wpAny_bind (wpAny_seqItems hol hdl ?_)))
  simp only [Int.toNat_natCast, e]
  refine wpAny_bind (wpAny_rule (wpAny_bind (wpAny_setField ho hd (by simp) ?_)))
  refine wpAny_bind (show wpAny _ _ (newExc (.type "StopIteration") []) _ _ _ from ?_)
  unfold newExc newTuple
  refine wpAny_bind (wpAny_newObj_type ?_ (by size_fits))
  refine wpAny_bind (m := firstArgMember _ _) (wpAny_of_eq (a := Value.none) (by first | rfl | (unfold firstArgMember; rfl)) (wpAny_newObj_type ?_ (by size_fits)))
  have up : ∀ u, s.heap.get? x1 = some u → (s.heap.update it (Obj.mapFields (·.setIfInBounds 0 Value.none))).get? x1 = some u := fun u hu => by
    rw [Heap.get?_update_other _ _ (Ne.symm ne)]; exact hu
  obtain ⟨hh, oo, vs, q1, q2, q3⟩ := hot
  have q5 := Heap.get?_push_of_some ({ cls := .type "tuple", data := .seq #[] } : Obj) (up _ q1)
  refine raiseNew_hot (x1 := x1) ⟨hh, oo, vs, Heap.get?_push_of_some _ q5, q2, q3⟩ (Nat.ne_of_lt (Heap.lt_size q5)) (Heap.get?_push_size _ rfl) rfl (by first | (simp; done) | (simp; omega)) ?_
  refine wpAny_bind (wpAny_isInstance (T := "StopIteration") (b := true) ⟨_, Heap.get?_update_self _ (Heap.get?_push_size _ rfl) rfl, rfl⟩ isSubtype_stop (wpAny_pure (hQ _ fun c u hc hu => ?_)))
  have r1 : (s.heap.update it (Obj.mapFields (·.setIfInBounds 0 Value.none))).get? c = some u := by
    rw [Heap.get?_update_other _ _ (Ne.symm hc)]; exact hu
  have r2 := Heap.get?_push_of_some ({ cls := .type "tuple", data := .seq #[] } : Obj) r1
  rw [Heap.get?_update_other _ _ (Nat.ne_of_gt (Heap.lt_size r2))]
  exact Heap.get?_push_of_some _ r2
theorem unpack_hot {t : Addr} {items : Array Value} {tgs : List (Bool × (Value → Sem Unit))} {Q : Unit → Shared → Prop} (hot : HotAt A x1 s.heap) (ht : IsTup s.heap t items) (hn : tgs.length = items.size) (hst : tgs.findIdx? (·.1) = none)
    (h : ∀ h', Heap.ExtBut s.heap.objs.size s.heap h' → wpAny (model prog w) A (assignInOrder (tgs.map (·.2)) items.toList) Q E { s with heap := h' }) : wpAny (model prog w) A (unpack (.ref t) tgs) Q E s := by
  have lt : t ≠ s.heap.objs.size := by obtain ⟨o, ho, _⟩ := ht; exact Nat.ne_of_lt (Heap.lt_size ho)
  have lx : x1 ≠ s.heap.objs.size := by obtain ⟨_, o, _, ho, _⟩ := hot; exact Nat.ne_of_lt (Heap.lt_size ho)
  have ht0 := ht.typeIs
  unfold unpack
  rw [hn, hst]
  refine wpAny_bind (wpAny_holding ?_)
  unfold unpackItems notIterableAtAll
  refine wpAny_bind (wpAny_bind (wpAny_specialOf ht0 slot_tuple_iter.lookup (wpAny_pure ?_)))
  simp only [Bool.false_eq_true, if_false]
  refine wpAny_bind (wpAny_holding (iter_tuple ht (wpAny_bind (wpAny_holding (draw_tuple lt items.size 0 _ _ ⟨_, Heap.get?_push_size _ rfl, rfl, rfl⟩ (ht.push _) (by omega) fun g1 j1 c1 => ?_)))))
  have all : List.take items.size (List.drop 0 items.toList) = items.toList := by
    rw [List.drop_zero]; exact List.take_of_length_le (by simp)
  rw [all, if_neg (by simp)]
  have t1 : IsTup g1 t items := (ht.push _).extBut c1.extBut lt
  have hot1 : HotAt A x1 g1 := hot_kept hot fun o e => c1.extBut _ _ lx (Heap.get?_push_of_some _ e)
  refine wpAny_bind (wpAny_holding (tup_none_hot (s := { s with heap := g1 }) hot1 lx j1 t1 (by simp) fun g2 c2 => ?_))
  simp only [Option.isSome_none, Bool.false_eq_true, if_false]
  exact wpAny_pure (h g2 fun b o hb e => c2 b o hb (c1.extBut b o hb (Heap.get?_push_of_some _ e)))
end
end Tri
namespace Tri
open PySem PySem.Spec L2 HotX
open L2H hiding St
open PyProof.Rows hiding St
theorem pg_tupA {X : Cx} {x1 : Addr} {es : List Expr} {k : Nat} {t : TGs} {n : Nat} {pos : Pos} (hot : ∀ (pins : List (Addr × Obj)) (σ : St) (H : Hp) (s : Shared), Inv X pins σ H s → HotAt X.A x1 s.heap) (h : PGs X es t)
    (hn : (assignEach es X.env).length = n := by rfl) (hst : (assignEach es X.env).findIdx? (·.1) = none := by rfl) : PG X (.Tuple es k pos) (gTup X.K n t) := by
  refine ⟨fun pins s σ H v u Q I r hw => ?_⟩
  obtain ⟨a, xs, rfl, hq, hl, hw⟩ := hw
  obtain rfl : u = Value.ref a := r
  obtain ⟨its, rv, ht, hz⟩ := I.tuple hq
  rw [assign_Tuple]
  refine wpAny_bind (wpAny_standAt (unpack_hot (hot _ _ _ _ I) ht (by simp [hn, ← hl, rv.length]) hst fun h' hx => ?_))
  have J : Inv X pins σ H { s with heap := h' } := I.kept (t' := s.toks) fun b o e => hx b o (Nat.ne_of_lt (Heap.lt_size e)) e
  exact h.run pins _ σ H xs _ Q J (by simpa using rv) hw
end Tri
end

section
set_option maxRecDepth 100000
set_option maxHeartbeats 400000
namespace Tri
open PySem PySem.Spec L2 HotX
open L2H hiding St
open PyProof.Rows hiding St
def picks : List Str → List Bool → List Str
  | n :: ns, b :: bs => if b then n :: picks ns bs else picks ns bs
  | _, _ => []
theorem picks_le : ∀ (ns : List Str) (bs : List Bool), (picks ns bs).length ≤ ns.length
  | [], _ => by simp [picks]
  | n :: ns, [] => by simp [picks]
  | n :: ns, b :: bs => by
    have := picks_le ns bs
    cases b <;> simp [picks] <;> omega
theorem picks_step {ns : List Str} {bs : List Bool} {i : Nat} {n : Str} {b : Bool} (hn : ns[i]? = some n) (hb : bs[i]? = some b) : picks (ns.take (i + 1)) (bs.take (i + 1)) = picks (ns.take i) (bs.take i) ++ (if b then [n] else []) := by
  induction ns generalizing bs i with
  | nil => cases hn
  | cons x ns ih =>
    cases bs with
    | nil => cases hb
    | cons y bs =>
      cases i with
      | zero =>
        obtain rfl : x = n := by simpa using hn
        obtain rfl : y = b := by simpa using hb
        cases y <;> simp [picks]
      | succ i =>
        have := ih (bs := bs) (i := i) (by simpa using hn) (by simpa using hb)
        simp only [List.take_succ_cons, picks]
        rw [this]
        cases y <;> simp
theorem tlc_picks {K : PySem.W.Frag} {ta : TA} {i j : Nat} {σ : St} {H : Hp} {Q : VK} {ns : List Str} {bs : List Bool} (hij : i ≠ j) (hi : i < σ.length) (hj : j < σ.length) (hl : ns.length = bs.length) (hz : ns.length ≤ 1000)
    (h : ∀ P : List V → Hp → Prop, (∀ vs H1, (∃ a b, vs = [.ref a, .ref b] ∧ H1 a = some (.lst (ns.map V.str)) ∧ H1 b = some (.lst (bs.map V.bl)) ∧ ∀ l H', Grow H1 H' → H1 l = none → H' l = some (.lst ((picks ns bs).map V.str)) → Q (.ref l) H') → P vs H1) → ta σ H P) :
    tLc (iZipW K ta) (gTup K 2 (gCons (gName i) (gCons (gName j) gNil))) (tB (tVar j)) (tVar i) [i, j] σ H Q := by
  refine h _ ?_
  rintro vs H1 ⟨a, b, rfl, ha, hb, q⟩
  refine ⟨a, b, _, _, rfl, .of ha, .of hb, fun D hD => ?_⟩
  have na : a ≠ D := fun z => by rw [z, hD] at ha; cases ha
  have nb : b ≠ D := fun z => by rw [z, hD] at hb; cases hb
  have e1 : (1000 : Nat) ≤ sizeLine := by rw [sizeLine_eq]; omega
  refine ⟨fun k m H' => m = ns.length - k ∧ k ≤ ns.length ∧ Grow H1 H' ∧ H' D = some (.lst ((picks (ns.take k) (bs.take k)).map V.str)), ⟨_, rfl, Nat.zero_le _, fun c o e => ?_, by rw [upd_same]; simp [picks]⟩, ?_⟩
  · have : c ≠ D := fun z => by rw [z, hD] at e; cases e
    rw [upd_ne this]; exact e
  rintro k m H2 ⟨rfl, hk, g, hd⟩
  by_cases lt : k < ns.length
  · obtain ⟨n, hn⟩ : ∃ n, ns[k]? = some n := ⟨ns[k], by simp [lt]⟩
    obtain ⟨b0, hb0⟩ : ∃ n, bs[k]? = some n := ⟨bs[k]'(by omega), by simp⟩
    refine .inr ⟨⟨_, _, .str n, .bl b0, .of (g _ _ ha), .of (g _ _ hb), by simp [hn], by simp [hb0]⟩, fun H' => Grow H1 H' ∧ H' D = some (.lst ((picks (ns.take (k + 1)) (bs.take (k + 1))).map V.str)), fun H' hN => ⟨ns.length - (k + 1), by omega, rfl, by omega, hN.1, hN.2⟩, ?_⟩
    rintro x H3 ⟨T, x1, y1, rfl, hT, rfl, g1, g2⟩
    have z1 := g1 _ (.of (g _ _ ha))
    have z2 := g2 _ (.of (g _ _ hb))
    obtain rfl : x1 = .str n := by simpa [hn] using z1.symm
    obtain rfl : y1 = .bl b0 := by simpa [hb0] using z2.symm
    have nT : D ≠ T := fun z => by rw [← z, hd] at hT; cases hT
    have d3 : upd H2 T (.tup [V.str n, V.bl b0]) D = some (.lst ((picks (ns.take k) (bs.take k)).map V.str)) := by rw [upd_ne nT]; exact hd
    have g3 : Grow H1 (upd H2 T (.tup [V.str n, V.bl b0])) := fun c o e => by
      have e' := g c o e
      have : c ≠ T := fun z => by rw [z, hT] at e'; cases e'
      rw [upd_ne this]; exact e'
    refine ⟨T, _, rfl, .of upd_same, rfl, _, _, rfl, _, _, rfl, rfl, ?_, _, ?_, b0, rfl, ?_⟩
    · have l2 : (((wipe σ [i, j]).set i (some (V.str n))).set j (some (V.bl b0))).length = (wipe σ [i, j]).length := by simp
      have q1 : wipe (((wipe σ [i, j]).set i (some (V.str n))).set j (some (V.bl b0))) [i, j] = wipe (wipe σ [i, j]) [i, j] := Ly.wipe_in l2 _ fun c hn => by
        have c1 : c ≠ i := fun z => hn (by rw [z]; simp)
        have c2 : c ≠ j := fun z => hn (by rw [z]; simp)
        rw [List.getElem?_set_ne (Ne.symm c2), List.getElem?_set_ne (Ne.symm c1)]
      rw [q1]
      exact Ly.wipe_in (by rw [wipe_length]) _ fun c hn => wipe_out hn
    · exact List.getElem?_set_self (by simp [wipe_length, hj])
    · rw [picks_step hn hb0]
      cases b0 with
      | true =>
        simp only [if_true]
        refine ⟨.str n, ?_, _, d3, ?_, ?_, ?_⟩
        · rw [List.getElem?_set_ne (Ne.symm hij)]
          exact List.getElem?_set_self (by simp [wipe_length, hi])
        · have := picks_le (ns.take k) (bs.take k)
          rw [List.length_map, sizeLine_eq]
          simp at this
          omega
        · intro c o e
          have : c ≠ D := fun z => by rw [z, hD] at e; cases e
          rw [upd_ne this]; exact g3 c o e
        · rw [upd_same]; simp
      | false =>
        simp only [Bool.false_eq_true, if_false, List.append_nil]
        exact ⟨g3, d3⟩
  · obtain rfl : k = ns.length := by omega
    refine .inl ⟨⟨_, _, .of (g _ _ ha), .of (g _ _ hb), by simp⟩, q D H2 g hD ?_⟩
    rw [hd, List.take_length, hl, List.take_length]
end Tri
end

section
set_option maxRecDepth 100000
set_option maxHeartbeats 400000
namespace Tri
open PySem PySem.Spec L2 HotX
open L2H hiding St
open PyProof.Rows hiding St
def rJn (K : PySem.W.Frag) : V → List V → Hp → VK → Prop := fun x xs H Q => ∃ a p, ∃ ys : List Str, x = .str a ∧ xs = [.ref p] ∧ (SqL K H p (ys.map V.str) ∨ SqT K H p (ys.map V.str)) ∧
    (ys.map (·.length)).sum + ys.length * a.length ≤ 16777216 ∧ Q (.str (Txt.join a ys)) H
theorem mt_jn {X : Cx} : MtR X "str.join" (rJn X.K) := mt_join
def rSpl : V → List V → Hp → VK → Prop := fun x xs H Q => ∃ a b, x = .str a ∧ xs = [.str b] ∧ (b.length == 0) = false ∧ a.length + 2 ≤ sizeLine ∧ rNewStrs (Txt.split a b) H Q
theorem mt_spl {X : Cx} : MtR X "str.split" rSpl := mt_split
def tMarked (K : PySem.W.Frag) (plus sep : Str) : TE := tM1 (rJn K) (tC (.str plus)) (tLc (iZipW K (tCons (tM1 rSpl (tVar 1) (tC (.str sep))) (tCons (tVar 0) tNil))) (gTup K 2 (gCons (gName 2) (gCons (gName 3) gNil))) (tB (tVar 3)) (tVar 2) [2, 3])
theorem t_marked {K : PySem.W.Frag} {plus sep names : Str} {bs : List Bool} {b : Addr} {σ : St} {H : Hp} {Q : VK} (h0 : σ[0]? = some (some (.ref b))) (h1 : σ[1]? = some (some (.str names))) (hl : 3 < σ.length) (hb : H b = some (.lst (bs.map V.bl)))
    (hs : (sep.length == 0) = false) (hz : names.length ≤ 1000) (hn : (Txt.split names sep).length = bs.length) (hn2 : (Txt.split names sep).length ≤ 1000) (hj : ((picks (Txt.split names sep) bs).map (·.length)).sum + (picks (Txt.split names sep) bs).length * plus.length ≤ 16777216)
    (q : ∀ H', Grow H H' → Q (.str (Txt.join plus (picks (Txt.split names sep) bs))) H') : tMarked K plus sep σ H Q := by
  refine ⟨⟨plus, rfl⟩, tlc_picks (ns := Txt.split names sep) (bs := bs) (by decide) (by omega) hl hn hn2 fun P hP => ?_⟩
  refine ⟨_, h1, ⟨names, rfl⟩, names, sep, rfl, rfl, hs, by rw [sizeLine_eq]; omega, fun p hp => ?_⟩
  refine ⟨_, h0, ?_⟩
  have nb : b ≠ p := fun z => by rw [z, hp] at hb; cases hb
  refine hP _ _ ⟨p, b, rfl, upd_same, by rw [upd_ne nb]; exact hb, fun l H' g hn hd => ?_⟩
  refine ⟨plus, l, picks (Txt.split names sep) bs, rfl, rfl, .inl (.of hd), hj, q H' fun c o e => ?_⟩
  have : c ≠ p := fun z => by rw [z, hp] at e; cases e
  exact g _ _ (by rw [upd_ne this]; exact e)
end Tri
end

section
set_option maxRecDepth 100000
set_option maxHeartbeats 400000
namespace Tri
open PySem PySem.Spec L2 HotX
open L2H hiding St
open PyProof.Rows hiding St
theorem pe_marked {X : Cx} {p : Addr × Obj} {m x n h plus sep : Str} {scope : Scope} {kk : Nat} {p1 p2 p3 p4 p5 p6 p7 p8 p9 p10 p11 tp ap lp cpos : Pos} {j1 j2 : Nat} {apos : Pos} (hot : HotP X p) (hN : X.N.Nodup)
    (e0 : X.N[0]? = some m) (e1 : X.N[1]? = some x) (e2 : X.N[2]? = some n) (e3 : X.N[3]? = some h) (v0 : Vis X.env.scope m) (v1 : Vis X.env.scope x) (l2 : scope.names.lookup n = some .local) (l3 : scope.names.lookup h = some .local)
    (hz : Gl X "zip") (mz : X.mg "zip" = none) (ok : BlkOk X.N X.env.scope scope [(n, 2), (h, 3)])
    (d0 : (m == ("__debug__" : Str)) = false := by decide) (d1 : (x == ("__debug__" : Str)) = false := by decide) (d2 : (n == ("__debug__" : Str)) = false := by decide) (d3 : (h == ("__debug__" : Str)) = false := by decide)
    (c0 : (m == ("__classdict__" : Str)) = false := by decide) (c1 : (x == ("__classdict__" : Str)) = false := by decide) (c2 : (n == ("__classdict__" : Str)) = false := by decide) (c3 : (h == ("__classdict__" : Str)) = false := by decide)
    (hline : (ap.endLine == p8.line) = true := by rfl) (hline2 : (apos.endLine == cpos.line) = true := by rfl) :
    PE X (.Call (.Attribute (.Constant (.str plus) j1 p1) "join" apos) [.ListComp (.Name n p2) [⟨.Tuple [.Name n p3, .Name h p4] kk tp, .Call (.Name "zip" p5) [.Call (.Attribute (.Name x p6) "split" ap) [.Constant (.str sep) j2 p7] [] p8, .Name m p9] [] p11, [.Name h p10], 0⟩] scope lp] [] cpos) (tMarked X.K plus sep) := by
  have hv : ∀ {y : Str} {env : Env}, scope.names.lookup y = some .local → (relabel scope env).names.lookup y = some .local := fun e => by
    unfold relabel
    exact lookup_relabel_local e
  refine pe_m1 PySem.F.slot_str_join PySem.F.type_str_join mt_jn pe_str ?_ (by rfl) (by rfl) hline2
  refine pe_lcA hot hN (pi_zipW hz mz (pa_cons (pe_m1 PySem.F.slot_str_split PySem.F.type_str_split mt_spl (pe_var e1 v1 d1 c1) pe_str (by rfl) (by rfl) hline) (pa_cons (pe_var e0 v0 d0 c0) pa_nil))) ok ?_ ?_ ?_
  · intro s H C cl fp hh
    exact pg_tupA hh (pgs_cons (pg_name hN e2 (.inl (hv l2)) (.inr (hv l2))) (pgs_cons (pg_name hN e3 (.inl (hv l3)) (.inr (hv l3))) pgs_nil))
  · intro s H C cl fp hh
    exact pts_one (pt_val (pe_var e3 (.inl (hv l3)) d3 c3))
  · intro s H C cl fp hh
    exact pe_var e2 (.inl (hv l2)) d2 c2
end Tri
end

section
set_option maxRecDepth 100000
set_option maxHeartbeats 400000
namespace Tri
open PySem PySem.Spec L2 HotX
open L2H hiding St
open PyProof.Rows hiding St
section
variable {X : Cx} {x : Str}
def Mt (X : Cx) (m0 : Option Str) (sts : List Stmt) (plus sep names : Str) : Prop := ∃ t, PSs X sts t ∧ ∀ (D : Ends) (σ : St) (H : Hp) (b : Addr) (bs : List Bool), σ[0]? = some (some (.ref b)) → 3 < σ.length → (∀ m, m0 = some m → σ[1]? = some (some (.str m))) →
  H b = some (.lst (bs.map V.bl)) → (Txt.split names sep).length = bs.length → ((picks (Txt.split names sep) bs).map (·.length)).sum + (picks (Txt.split names sep) bs).length * plus.length ≤ 16777216 → (∀ H', Grow H H' → D.rt (.str (Txt.join plus (picks (Txt.split names sep) bs))) H') → t D σ H
theorem mt_ret {plus sep names : Str} {e : Expr} {pos : Pos} (h : PE X e (tMarked X.K plus sep)) (hs : (sep.length == 0) = false) (hz : names.length ≤ 1000) (hn2 : (Txt.split names sep).length ≤ 1000) : Mt X (some names) [.Return (some e) pos] plus sep names :=
  ⟨_, pss_one (ps_ret h), fun D σ H b bs h0 hl h1 hb hn hj q => t_marked h0 (h1 _ rfl) hl hb hs hz hn hn2 hj q⟩
theorem mt_set0 {m plus sep names : Str} {sts : List Stmt} {j : Nat} {p1 p2 pos : Pos} (hN : X.N.Nodup) (hi : X.N[1]? = some x) (hx : X.env.scope.names.lookup x = some .local) (r : Mt X (some m) sts plus sep names)
    (hs : swapsWith (.Constant (.str m) j p2) (some (.Name x p1)) pos.line X.env = pure false := by rfl) : Mt X none (.Assign [.Name x p1] (.Constant (.str m) j p2) pos :: sts) plus sep names := by
  obtain ⟨ts, r1, r2⟩ := r
  refine ⟨_, pss_cons (ps_set hN hi (.inl hx) pe_str hs (.inr hx)) r1, fun D σ H b bs h0 hl _ hb hn hj q => ?_⟩
  exact r2 D (σ.set 1 (some (.str m))) H b bs (by rw [List.getElem?_set_ne (by decide)]; exact h0) (by rw [List.length_set]; exact hl) (fun m' z => by cases z; exact List.getElem?_set_self (by omega)) hb hn hj q
theorem mt_add {m m2 plus sep names : Str} {sts : List Stmt} {j : Nat} {p1 p2 p3 p4 pos : Pos} (hN : X.N.Nodup) (hi : X.N[1]? = some x) (hx : X.env.scope.names.lookup x = some .local) (hv : Vis X.env.scope x) (r : Mt X (some (m ++ m2)) sts plus sep names) (hz : m.length + m2.length ≤ 1000)
    (hd1 : (x == ("__debug__" : Str)) = false := by decide) (hd2 : (x == ("__classdict__" : Str)) = false := by decide)
    (hs : swapsWith (.BinOp (.Name x p3) .Add (.Constant (.str m2) j p2) p4) (some (.Name x p1)) pos.line X.env = pure false := by rfl) : Mt X (some m) (.Assign [.Name x p1] (.BinOp (.Name x p3) .Add (.Constant (.str m2) j p2) p4) pos :: sts) plus sep names := by
  obtain ⟨ts, r1, r2⟩ := r
  refine ⟨_, pss_cons (ps_set hN hi (.inl hx) (pe_op op_add_str (pe_var hi hv hd1 hd2) pe_str) hs (.inr hx)) r1, fun D σ H b bs h0 hl h1 hb hn hj q => ?_⟩
  refine ⟨_, h1 _ rfl, m, m2, rfl, rfl, by rw [sizeLine_eq]; omega, ?_⟩
  exact r2 D (σ.set 1 (some (.str (m ++ m2)))) H b bs (by rw [List.getElem?_set_ne (by decide)]; exact h0) (by rw [List.length_set]; exact hl) (fun m' z => by cases z; exact List.getElem?_set_self (by omega)) hb hn hj q
end
end Tri
end

section
set_option maxRecDepth 100000
set_option maxHeartbeats 400000
namespace Tri
open PySem PySem.Spec L2 HotX
open L2H hiding St
open PyProof.Rows hiding St
def spMarked (plus sep names : Str) : Sp := fun vs H Q _ => ∃ b bs, vs = [.ref b] ∧ H b = some (.lst (bs.map V.bl)) ∧ (Txt.split names sep).length = bs.length ∧
  ((picks (Txt.split names sep) bs).map (·.length)).sum + (picks (Txt.split names sep) bs).length * plus.length ≤ 16777216 ∧ ∀ H', Grow H H' → Q (.str (Txt.join plus (picks (Txt.split names sep) bs))) H'
theorem fn_marked {CX : CXT} {P : Program} {w : World} {K : PySem.W.Frag} {mg : Str → Option Value} {base : Heap} {k : Nat} {f : Addr} {name qual : Str} {params : Arguments} {body : List Stmt} {scope : Scope} {dV kV doc pm cdv ct oc : Value} {an od : Option Addr}
    {osl : Array (Option Value)} {m x n h plus sep names : Str} (lk : K.lookup f = some ⟨oc, od, .func (PySem.W.fnOf name qual params body scope dV kV doc pm an cdv ct), osl⟩) (hcd : PySem.W.codeIn K cdv qual = true) (S : FnScope [m, x, n, h] [m] scope)
    (hb : ∀ (A : Around) (outer : List Env) (s : Shared) (H : Hp) (E : XK) (p : Addr × Obj), HotP (cxH CX P w K mg base [m, x, n, h] qual scope f cdv A outer s H E p) p → Mt (cxH CX P w K mg base [m, x, n, h] qual scope f cdv A outer s H E p) none body plus sep names) :
    FnH P w K mg base CX (k + 1) f (PySem.W.fnOf name qual params body scope dV kV doc pm an cdv ct) [m] (spMarked plus sep names) := by
  refine fn_ofH lk hcd S ?_ ?_
  · rintro vs H Q E ⟨b, bs, rfl, _⟩
    rfl
  · rintro A outer s H vs Q E p hot room ⟨b, bs, rfl, h1, h2, h3, q⟩
    obtain ⟨t, ht, hr⟩ := hb A outer s H E p ⟨hot, by simp [cxH]⟩
    exact ⟨t, ht, hr _ _ H b bs rfl (show 3 < 4 by decide) (fun _ z => by cases z) h1 h2 h3 q⟩
end Tri
end

section
set_option maxRecDepth 100000
set_option maxHeartbeats 2000000
namespace Tri
open PySem PySem.Spec L2 LamX
open PyProof.Rows hiding St
section
variable (X : Cx) (A : Around) (outer : List Env) (s : Shared) (H : Hp) (E : XK) (sc : Scope) (f c : Addr)
abbrev lxe : Value → Shared → Prop := fun u s2 => wpAny (model X.prog X.w) (A.deeper (lamEnv X sc s.heap.objs.size f c)) (leaving (lamEnv X sc s.heap.objs.size f c) u)
  (fun _ s3 => L2N.CX X.prog X.w outer H s E u s3) (fun u3 s3 => L2N.CX X.prog X.w outer H s E u3 s3) s2
abbrev lcx : Cx := (lamCx X A outer s H (fun _ _ _ => False) sc f c).tr [] (lxe X A outer s H E sc f c)
end
section
variable {X : Cx} {pins : List (Addr × Obj)} {σ : St} {H : Hp} {s : Shared}
theorem lcx_takes {A : Around} {outer : List Env} {E : XK} {sc : Scope} {f c : Addr} : L2N.Takes (lcx X A outer s H E sc f c) (fun cls d _ Hx => E cls d Hx) := L2N.takes_of rfl rfl rfl rfl
theorem pe_actN {Y : CXT} {EY : XK} {N : List Str} {qn : Str} {sg : Scope} {g f c : Addr} {cdv mdl tv : Value} {ps : Arguments} {e : Expr} {sc : Scope} {k i : Nat} {y : Str} {pn : List (Addr × Obj)} {xe : Value → Shared → Prop} {W : WX} {t : XK → TE} {q1 q2 : Pos}
    (I : Inv X pins σ H s) (L : LamS X.env.scope sc) (there : s.heap.get? f = some (PySem.W.kla_obj "<lambda>" (X.env.qual ++ "<lambda>") ps e sc (cloFrom X.env.cells sc.names []) mdl c tv)) (free : H f = none) (off : f ∉ frs X.stack)
    (noarg : bindArgs (PySem.W.kla_fn "<lambda>" (X.env.qual ++ "<lambda>") ps e sc (cloFrom X.env.cells sc.names []) mdl (.ref c) tv) ⟨[], []⟩ = pure [])
    (tk : L2N.Takes ((cxOf Y X.prog X.w X.K X.mg X.base N qn sg g cdv X.A X.stack s H EY).tr pn xe) W) (room : Room (k + 1) (X.A.deeper (envOfC qn sg s.heap.objs.size g cdv)))
    (body : ∀ (A : Around) (outer : List Env) (s : Shared) (H : Hp) (E : XK), Room k (A.deeper (lamEnv X sc s.heap.objs.size f c)) → PE (lcx X A outer s H E sc f c) e (t E))
    (hN : N[i]? = some y) (hv : Vis sg y) (hd1 : (y == ("__debug__" : Str)) = false := by decide) (hd2 : (y == ("__classdict__" : Str)) = false := by decide) :
    PE ((cxOf Y X.prog X.w X.K X.mg X.base N qn sg g cdv X.A X.stack s H EY).tr pn xe) (.Call (.Name y q1) [] [] q2)
      (fun σ1 H1 Q => σ1[i]? = some (some (.ref f)) ∧ H1 c = some (CodeO c (X.env.qual ++ "<lambda>")) ∧ ∃ E : XK, (∀ cls d H2, E cls d H2 → W cls d σ1 H2) ∧ t E σ H1 Q) := by
  refine ⟨fun pins1 s1 σ1 H1 Q I1 ⟨h1, h2, E, imp, h3⟩ => ?_⟩
  refine wpAny_Call_Name_kw (thn ((pe_var (pos := q1) (i := i) hN hv hd1 hd2).run pins1 s1 σ1 H1 (fun v Hv => v = .ref f ∧ Hv = H1) I1 ⟨.ref f, h1, rfl, rfl⟩) ?_)
  rintro u s2 ⟨v, H2, I2, r2, ev, eH⟩
  cases ev; cases eH
  cases (show u = Value.ref f from r2)
  have here : s2.heap.get? f = some (PySem.W.kla_obj "<lambda>" (X.env.qual ++ "<lambda>") ps e sc (cloFrom X.env.cells sc.names []) mdl c tv) := I2.base.keep f _ there free off (List.not_mem_nil)
  have un : Un (frs X.stack) [] H H1 s.heap s2.heap := I2.base
  have code := (I2.hok c _ h2).1
  obtain ⟨oc, vs, tc, k1, k2, k3⟩ := code
  have run : codeAny (model X.prog X.w) (X.A.deeper (envOfC qn sg s.heap.objs.size g cdv)) (.call (.ref f) ⟨[], []⟩) (CR (L2N.CX X.prog X.w) (envOfC qn sg s.heap.objs.size g cdv :: X.stack) X.prog X.w H1 s2 Q E) s2 := by
    refine PySem.W.kla_callFunE room.depth here rfl L.co L.gen rfl ⟨c, oc, vs, tc, rfl, k1, k2, k3⟩ ?_
    rw [noarg]
    refine wpAny_pure (wpAny_newFunctionEnv (fun y hy => (L.own y hy).2) (fun y hy => by cases hy) (fun h4 ns sb => ⟨I2.nolimit.fresh _ sb, ?_⟩) L.kind)
    have kp : ∀ b o, s2.heap.get? b = some o → h4.get? b = some o := fun b o eb => sb.extBut b o (Nat.ne_of_lt (Heap.lt_size eb)) (Heap.get?_push_of_some _ eb)
    have J0 : Inv (lamCx X (X.A.deeper (envOfC qn sg s.heap.objs.size g cdv)) (envOfC qn sg s.heap.objs.size g cdv :: X.stack) s2 H1 (fun _ _ _ => False) sc f c) [] σ H1 { s2 with heap := h4, toks := s2.toks + ([] : List (Str × Value)).length } := lam_start2 I L I2.env0 room.hd un ns kp
    have J := J0.toTry (lxe X (X.A.deeper (envOfC qn sg s.heap.objs.size g cdv)) (envOfC qn sg s.heap.objs.size g cdv :: X.stack) s2 H1 E sc f c)
    refine PySem.W.kla_codeExpr (wpAny_mono ((body _ _ s2 H1 E (room.deeper _)).run [] _ _ H1 Q J h3) ?_ fun _ _ z => z)
    rintro v s4 ⟨v4, H4, J4, r4, q4⟩
    exact ⟨v4, H4, J4.os, J4.bare, J4.base, J4.hok, r4, q4⟩
  refine PySem.W.callWith_F0 ⟨_, _, _, _, here⟩ (wpAny_call (codeAny_mono run fun r s3 done => ?_))
  match r, done with
  | .error u, done => exact tk u s3 (L2N.XE.of_call I2 imp done)
  | .ok (.ret u), done => exact I2.after done
  | .ok .next, done => exact False.elim done
  | .ok .brk, done => exact False.elim done
  | .ok .cont, done => exact False.elim done
def GivesN (X : Cx) (N : List Str) (x : Str) (sg : Scope) (g : Addr) (cdv : Value) (bd : List Stmt) (y q : Str) (TT : (XK → Hp → VK → Prop) → Hp → VK → Prop) : Prop :=
  ∀ (f c : Addr) (s : Shared) (H : Hp) (Q : VK) (tl : XK → Hp → VK → Prop), Room 1 (X.A.deeper (envOfC x sg s.heap.objs.size g cdv)) →
    (∀ (W : WX) (pn : List (Addr × Obj)) (xe : Value → Shared → Prop) (q1 q2 : Pos), L2N.Takes ((cxOf C8.CX0 X.prog X.w X.K X.mg X.base N x sg g cdv X.A X.stack s H C8.E0).tr pn xe) W →
      PE ((cxOf C8.CX0 X.prog X.w X.K X.mg X.base N x sg g cdv X.A X.stack s H C8.E0).tr pn xe) (.Call (.Name y q1) [] [] q2) (fun σ1 H1 Q1 => σ1[0]? = some (some (.ref f)) ∧ H1 c = some (CodeO c q) ∧ ∃ E : XK, (∀ cls d H2, E cls d H2 → W cls d σ1 H2) ∧ tl E H1 Q1)) →
    H c = some (CodeO c q) → TT tl H Q →
    ∃ t, PSs (cxOf C8.CX0 X.prog X.w X.K X.mg X.base N x sg g cdv X.A X.stack s H C8.E0).nox bd t ∧ t { nx := fun _ Hx => Q .non Hx, rt := Q } (L2.start N [.ref f]) H
theorem pe_lamN {T : List (Addr × Str)} {TT : (XK → Hp → VK → Prop) → Hp → VK → Prop} {x y : Str} {g c P : Addr} {k : Nat} {pg : Arguments} {bd : List Stmt} {sg : Scope} {w1 w2 w3 w4 w5 w6 oc : Value} {an od : Option Addr} {sl : Array (Option Value)} {N : List Str}
    {ps : Arguments} {e : Expr} {sc : Scope} {t : XK → TE} {p lpos pos : Pos} (hg : Gl X x) (hm : X.mg x = some (.ref g)) (hk : PySem.W.keepIn X.K (.ref g) = true)
    (lk : X.K.lookup g = some ⟨oc, od, .func (PySem.W.fnOf x x pg bd sg w1 w2 w3 w4 an w5 w6), sl⟩) (hcd : PySem.W.codeIn X.K w5 x = true) (hb : L2.Binds X.K (PySem.W.fnOf x x pg bd sg w1 w2 w3 w4 an w5 w6) [y] []) (S : FnScope N [y] sg) (h0 : N[0]? = some y) (hv : Vis sg y)
    (gives : GivesN X N x sg g w5 bd y (X.env.qual ++ "<lambda>") TT) (B : TabB X.base X.mg c P) (code : X.env.code = .ref c) (hT : (P, X.env.qual ++ "<lambda>") ∈ T) (one : ∀ z ∈ T, z.1 = P → z.2 = X.env.qual ++ "<lambda>")
    (room : Room (k + 2) X.A) (L : LamS X.env.scope sc) (hdef : defaultsOf ps X.env = ([], [])) (noarg : ∀ (q : Str) (cl : List (Str × Addr)) (a b d : Value), bindArgs (PySem.W.kla_fn "<lambda>" q ps e sc cl a b d) ⟨[], []⟩ = pure [])
    (body : ∀ (A : Around) (outer : List Env) (s : Shared) (H : Hp) (E : XK) (f c : Addr), Room k (A.deeper (lamEnv X sc s.heap.objs.size f c)) → PE (lcx X A outer s H E sc f c) e (t E))
    (hdb : (x == ("__debug__" : Str)) = false := by decide) (hd1 : (y == ("__debug__" : Str)) = false := by decide) (hd2 : (y == ("__classdict__" : Str)) = false := by decide) :
    PE X (.Call (.Name x p) [.Lambda ps e sc lpos] [] pos) (tLam T TT t) := by
  refine ⟨fun pins s σ H Q I ⟨tabs, h⟩ => wpAny_Call_Name_kw (ld_glob I hg hm (PySem.W.callWith_K (h₀ := X.base) I.ok.mod.kin hk ?_ (by rfl) (by rfl)) hdb)⟩
  show wpAny _ _ (spliced ((false, eval (.Lambda ps e sc lpos) X.env) :: backTo pos (starEach [] X.env))) _ _ s
  refine Calls.spliced_cons (lam_make2 I B code hT one tabs hdef (L.has I.ok) ?_)
  intro f c1 mdl tv H1 s1 I1 ext tabs1 there free off kept
  refine Calls.spliced_nil ⟨I1.kIn, wpAny_call (codeAny_mono (R := CR C8.CX0 X.stack X.prog X.w H1 s1 Q C8.E0) ?_ ?_)⟩
  · refine run_ofS (N := N) (ps := [y]) (us := [.ref f]) (vs := [.ref f]) lk hcd S (room.mono (by omega) : Room (k + 1 + 1) X.A) I1.env0 (hb s1 [.ref f] I1.kIn rfl) (.cons rfl .nil) rfl fun room1 => ?_
    obtain ⟨t1, ht1, hq1⟩ := gives f c1 s1 H1 Q (fun E Hx Qx => t E σ Hx Qx) (room1.mono (by omega))
      (fun W pn xe q1 q2 tk => pe_actN (i := 0) I1 L there free off (noarg _ _ _ _ _) tk room1 (fun A outer s H E room2 => body A outer s H E f c1 room2) h0 hv hd1 hd2) kept (h H1 ext tabs1)
    exact ⟨t1, ht1.nox, hq1⟩
  · intro r s2 done
    match r, done with
    | .error u, done => exact False.elim (show False from done)
    | .ok (.ret u), done => exact I1.after done
    | .ok .next, done => exact False.elim done
    | .ok .brk, done => exact False.elim done
    | .ok .cont, done => exact False.elim done
end
end Tri
end

section
set_option maxRecDepth 100000
set_option maxHeartbeats 2000000
namespace Tri
open PySem PySem.Spec L2 LamX
open L2H hiding St
open PyProof.Rows hiding St
abbrev Wrd := Value → Option Addr → Hp → Str → Prop
def sWrd (Wd : Wrd) (e : Addr) (k : Value) (dx : Option Addr) : TS := fun D σ H => ∃ w, Wd k dx H w ∧ H e = none ∧ σ[3]? = some (some (.ref e)) ∧ 3 < σ.length ∧ ∀ H', Grow H H' → D.nx (σ.set 2 (some (.str w))) H'
def noWrd : Wrd := fun _ _ _ _ => False
theorem suite_no {X : Cx} {sts : List Stmt} {e : Addr} {k : Value} {dx : Option Addr} : PSs X sts (sWrd noWrd e k dx) := ⟨fun _ _ _ _ _ _ ⟨_, h, _⟩ => h.elim⟩
def wWrd (K : PySem.W.Frag) : List (Value × Wrd) → Value → Option Addr → Hp → (Str → Prop) → Prop
  | [], _, _, _, _ => False
  | q :: r, k, dx, H, P => ∃ b, PySem.W.exmOne K k q.1 = some b ∧ (b = true → ∃ w, q.2 k dx H w ∧ P w) ∧ (b = false → wWrd K r k dx H P)
def TTried (K : PySem.W.Frag) (cl : List (Value × Wrd)) : (XK → Hp → VK → Prop) → Hp → VK → Prop := fun tl H Q => ∀ Q1 : VK, (∀ v H1, (∀ p, H1 p = none → Q (.ref p) (upd H1 p (.tup [v, .str ""]))) → Q1 v H1) →
  tl (fun k dx Hx => wWrd K cl k dx Hx fun w => ∀ H' p, Grow Hx H' → H' p = none → Q (.ref p) (upd H' p (.tup [.non, .str w]))) H Q1
theorem ch_of {K : PySem.W.Frag} {Wo : WX} {D : Ends} {k : Value} {dx : Option Addr} {σ : St} {H : Hp} {P : Str → Prop} (hl : 3 < σ.length) (hP : ∀ w, P w → ∀ H' e, Grow H H' → D.nx (((σ.set 3 (some (.ref e))).set 2 (some (.str w))).set 3 none) H') :
    ∀ cl : List (Value × Wrd), wWrd K cl k dx H P → wCh K 3 Wo D (cl.map fun q => (q.1, fun e k dx => sWrd q.2 e k dx)) k dx σ H
  | [], h => h.elim
  | q :: r, ⟨b, h1, h2, h3⟩ => ⟨b, h1, fun z e he => by
      obtain ⟨w, a1, a2⟩ := h2 z
      exact ⟨w, a1, he, List.getElem?_set_self hl, by rw [List.length_set]; exact hl, fun H' g => hP w a2 H' e g⟩, fun z => ch_of hl hP r (h3 z)⟩
section
variable {X : Cx} {x n0 n1 n2 n3 y1 y2 y3 y4 q : Str} {sg : Scope} {g : Addr} {cdv c1 c2 c3 c4 : Value} {b1 b2 b3 b4 : Stmt} {r1 r2 r3 r4 : List Stmt} {j1 j2 : Nat}
abbrev zcx (X : Cx) (N : List Str) (x : Str) (sg : Scope) (g : Addr) (cdv : Value) (s : Shared) (H : Hp) : Cx := (cxOf C8.CX0 X.prog X.w X.K X.mg X.base N x sg g cdv X.A X.stack s H C8.E0).nox
def SuiteOk (X : Cx) (N : List Str) (x : Str) (sg : Scope) (g : Addr) (cdv : Value) (sts : List Stmt) (W : Wrd) : Prop := ∀ (s : Shared) (H : Hp) (e : Addr) (o : Obj) (k : Value) (dx : Option Addr) (pn : List (Addr × Obj)), Room 1 (X.A.deeper (envOfC x sg s.heap.objs.size g cdv)) → L2N.Zn k dx o → (∃ vs, o.data = .fields vs) →
  PSs ((zcx X N x sg g cdv s H).suite e ((e, o) :: pn)) sts (sWrd W e k dx)
theorem suiteOk_no {N : List Str} {sts : List Stmt} : SuiteOk X N x sg g cdv sts noWrd := fun _ _ _ _ _ _ _ _ _ _ => suite_no
theorem tried_gives {W1 W2 W3 W4 : Wrd} {q1 q2 q3 q4 q5 q6 q7 q8 q9 u1 u2 u3 u4 v1 v2 v3 v4 t1 t2 t3 t4 t5 t6 : Pos} {kt : Nat} (nd : ([n0, n1, n2, n3] : List Str).Nodup)
    (l1 : sg.names.lookup n1 = some .local) (l2 : sg.names.lookup n2 = some .local) (l3 : sg.names.lookup n3 = some .local)
    (g1 : sg.names.lookup y1 = some .globalImplicit) (g2 : sg.names.lookup y2 = some .globalImplicit) (g3 : sg.names.lookup y3 = some .globalImplicit) (g4 : sg.names.lookup y4 = some .globalImplicit)
    (m1 : X.mg y1 = some c1) (m2 : X.mg y2 = some c2) (m3 : X.mg y3 = some c3) (m4 : X.mg y4 = some c4)
    (s1 : SuiteOk X [n0, n1, n2, n3] x sg g cdv (b1 :: r1) W1) (s2 : SuiteOk X [n0, n1, n2, n3] x sg g cdv (b2 :: r2) W2) (s3 : SuiteOk X [n0, n1, n2, n3] x sg g cdv (b3 :: r3) W3) (s4 : SuiteOk X [n0, n1, n2, n3] x sg g cdv (b4 :: r4) W4)
    (d1 : (n1 == ("__debug__" : Str)) = false := by decide) (d2 : (n2 == ("__debug__" : Str)) = false := by decide) (d3 : (n1 == ("__classdict__" : Str)) = false := by decide) (d4 : (n2 == ("__classdict__" : Str)) = false := by decide)
    (e1 : (y1 == ("__debug__" : Str)) = false := by decide) (e2 : (y2 == ("__debug__" : Str)) = false := by decide) (e3 : (y3 == ("__debug__" : Str)) = false := by decide) (e4 : (y4 == ("__debug__" : Str)) = false := by decide) :
    GivesN X [n0, n1, n2, n3] x sg g cdv [.Assign [.Name n1 q1] (.Constant .none j1 q2) q3, .Assign [.Name n2 q4] (.Constant (.str "") j2 q5) q6,
      .Try [.Assign [.Name n1 q7] (.Call (.Name n0 q8) [] [] q9) t1]
        [.ExceptHandler (some (.Name y1 u1)) (some n3) (b1 :: r1) v1, .ExceptHandler (some (.Name y2 u2)) (some n3) (b2 :: r2) v2, .ExceptHandler (some (.Name y3 u3)) (some n3) (b3 :: r3) v3, .ExceptHandler (some (.Name y4 u4)) (some n3) (b4 :: r4) v4] [] [] t2,
      .Return (some (.Tuple [.Name n1 t3, .Name n2 t4] kt t5)) t6] n0 q (TTried X.K [(c1, W1), (c2, W2), (c3, W3), (c4, W4)]) := by
  intro f c s H Q tl room act kept h
  have hN : (zcx X [n0, n1, n2, n3] x sg g cdv s H).N.Nodup := nd
  have set1 : ∀ (e : Expr) (t : TE) {p1 p2 : Pos}, PE (zcx X [n0, n1, n2, n3] x sg g cdv s H) e t → swapsWith e (some (.Name n1 p1)) p2.line (zcx X [n0, n1, n2, n3] x sg g cdv s H).env = pure false →
    PS (zcx X [n0, n1, n2, n3] x sg g cdv s H) (.Assign [.Name n1 p1] e p2) (fun D σ Hx => t σ Hx fun v Hy => D.nx (σ.set 1 (some v)) Hy) := fun e t p1 p2 he hs => ps_set (i := 1) hN rfl (.inl l1) he hs (.inr l1)
  refine ⟨_, pss_cons (set1 _ _ pe_non rfl) (pss_cons (ps_set (i := 2) hN rfl (.inl l2) pe_str rfl (.inr l2)) (pss_cons
    (ps_try_chain (Wo := fun _ _ _ _ => False) (i := 3) (n := n3) (tb := fun W D σ Hx => σ[0]? = some (some (.ref f)) ∧ Hx c = some (CodeO c q) ∧ ∃ E : XK, (∀ cls d H2, E cls d H2 → W cls d σ H2) ∧ tl E Hx fun v Hy => D.nx (σ.set 1 (some v)) Hy)
      rfl rfl hN rfl l3 Ly.takesN0 (fun W pn xe tk _ => ?_)
      (.cons (c := c1) (f := fun e k dx => sWrd W1 e k dx) ⟨g1, e1, .inl m1⟩ (fun e o k dx pn z hf => s1 s H e o k dx pn room z hf)
      (.cons (c := c2) (f := fun e k dx => sWrd W2 e k dx) ⟨g2, e2, .inl m2⟩ (fun e o k dx pn z hf => s2 s H e o k dx pn room z hf)
      (.cons (c := c3) (f := fun e k dx => sWrd W3 e k dx) ⟨g3, e3, .inl m3⟩ (fun e o k dx pn z hf => s3 s H e o k dx pn room z hf)
      (.cons (c := c4) (f := fun e k dx => sWrd W4 e k dx) ⟨g4, e4, .inl m4⟩ (fun e o k dx pn z hf => s4 s H e o k dx pn room z hf) .nil)))))
    (pss_one (ps_ret (pe_tup (pa_cons (pe_var (i := 1) rfl (.inl l1) d1 d3) (pa_cons (pe_var (i := 2) rfl (.inl l2) d2 d4) pa_nil))))))), ?_⟩
  · exact pss_one (ps_set (X := (zcx X [n0, n1, n2, n3] x sg g cdv s H).tr pn xe) (i := 1) hN rfl (.inl l1) (act W pn xe q8 q9 tk) rfl (.inr l1))
  · have back : ∀ (σ : St) (v : V) (w : Str) (Hx : Hp), σ[1]? = some (some v) → σ[2]? = some (some (.str w)) → (∀ p, Hx p = none → Q (.ref p) (upd Hx p (.tup [v, .str w]))) →
        ∃ v1, σ[1]? = some (some v1) ∧ ∃ v2, σ[2]? = some (some v2) ∧ (2 ≤ sizeLine ∧ ∀ p, Hx p = none → Q (.ref p) (upd Hx p (.tup [v1, v2]))) :=
      fun σ v w Hx h1 h2 hq => ⟨v, h1, _, h2, by decide, hq⟩
    refine ⟨rfl, kept, fun k dx Hx => wWrd X.K [(c1, W1), (c2, W2), (c3, W3), (c4, W4)] k dx Hx fun w => ∀ H' p, Grow Hx H' → H' p = none → Q (.ref p) (upd H' p (.tup [.non, .str w])), fun k dx Hx hw => ?_, ?_⟩
    · refine ch_of (P := fun w => ∀ H' p, Grow Hx H' → H' p = none → Q (.ref p) (upd H' p (.tup [.non, .str w]))) ?_ (fun w hP H' e gr => ?_) [(c1, W1), (c2, W2), (c3, W3), (c4, W4)] hw
      · exact Nat.lt_succ_self 3
      exact back _ .non w H' rfl rfl fun p np => hP H' p gr np
    · exact h _ fun v H1 hq => back _ v "" H1 rfl rfl hq
end
end Tri
end

section
set_option maxRecDepth 100000
set_option maxHeartbeats 2000000
namespace Tri
open PySem PySem.Spec L2 LamX
open L2H hiding St
open PyProof.Rows hiding St
structure ClsRow (mg : Str → Option Value) (names : List Str) (Cs : List Addr) : Prop where
  at' : ∀ (i : Nat) (x : Str), names[i]? = some x → ∃ C, Cs[i]? = some C ∧ mg x = some (.ref C)
def spMarks (K : PySem.W.Frag) (Cs : List Addr) : Addr × Obj → Sp := fun p vs H Q _ => ∃ (D : Addr) (bs : List Bool), vs = [.ref p.1] ∧ ExcC K D ∧ Zc (.ref D) none p.2 ∧ (∃ vs, p.2.data = .fields vs) ∧
  (Cs.map fun c => PySem.W.kitOne K (.ref D) (.ref c)) = bs.map some ∧ ∀ l H', Grow H H' → H l = none → H' l = some (.lst (bs.map .bl)) → Q (.ref l) H'
section
variable {X : Cx} {a D : Addr} {oe : Obj}
theorem ans_row {names : List Str} {Cs : List Addr} {b : Nat → Bool} {y x : Str} {p1 p2 p3 pos : Pos} (R : ClsRow X.mg names Cs) (K : ExcC X.K D) (hm : (a, oe) ∈ X.pn) (hz : Zc (.ref D) none oe) (hf : ∃ vs, oe.data = .fields vs) (hi : X.mg "isinstance" = none) (hk : ∀ (i : Nat) (C : Addr), Cs[i]? = some C → PySem.W.kitOne X.K (.ref D) (.ref C) = some (b i))
    (h0 : X.N[0]? = some y) (hv : Vis X.env.scope y) (i : Nat) (hx : names[i]? = some x) (hg : Gl X "isinstance" := by rfl) (hc : Gl X x := by rfl) (hd : (x == ("__debug__" : Str)) = false := by decide) (hd1 : (y == ("__debug__" : Str)) = false := by decide) (hd2 : (y == ("__classdict__" : Str)) = false := by decide)
    (he : starEach [.Name y p2, .Name x p3] X.env = (false, eval (.Name y p2) X.env) :: starEach [.Name x p3] X.env := by rfl) (he2 : starEach [.Name x p3] X.env = [(false, eval (.Name x p3) X.env)] := by rfl) (hpl : (backTo pos (starEach [.Name x p3] X.env)).any (·.1) = false := by rfl) :
    Ans X a (.Call (.Name "isinstance" p1) [.Name y p2, .Name x p3] [] pos) (b i) := by
  obtain ⟨C, h1, h2⟩ := R.at' i x hx
  exact ans_is K hm hz hf hg hi h0 hv hc h2 (hk i C h1) hd hd1 hd2 he he2 hpl
end
theorem fn_marks {CX : CXT} {P : Program} {w : World} {K : PySem.W.Frag} {mg : Str → Option Value} {base : Heap} {k : Nat} {f : Addr} {name qual : Str} {params : Arguments} {body : List Stmt} {scope : Scope} {dV kV doc pm cdv ct oc : Value} {an od : Option Addr}
    {osl : Array (Option Value)} {m x : Str} {Cs : List Addr} {n : Nat} (lk : K.lookup f = some ⟨oc, od, .func (PySem.W.fnOf name qual params body scope dV kV doc pm an cdv ct), osl⟩) (hcd : PySem.W.codeIn K cdv qual = true) (S : FnScope [m, x] [m] scope) (hn : Cs.length = n)
    (hb : ∀ (A : Around) (outer : List Env) (s : Shared) (H : Hp) (E : XK) (p : Addr × Obj) (D : Addr) (b : Nat → Bool), p ∈ (cxH CX P w K mg base [m, x] qual scope f cdv A outer s H E p).pn → ExcC K D → Zc (.ref D) none p.2 → (∃ vs, p.2.data = .fields vs) →
      (∀ (i : Nat) (C : Addr), Cs[i]? = some C → PySem.W.kitOne K (.ref D) (.ref C) = some (b i)) → Mk (cxH CX P w K mg base [m, x] qual scope f cdv A outer s H E p) p.1 none body ((List.range n).map b)) :
    FnE P w K mg base CX (k + 1) f (PySem.W.fnOf name qual params body scope dV kV doc pm an cdv ct) [m] (spMarks K Cs) := by
  refine fn_ofE lk hcd S ?_ ?_
  · rintro p vs H Q E ⟨D, bs, rfl, _⟩
    rfl
  · rintro A outer s H vs Q E p hot room ⟨D, bs, rfl, h1, h2, h3, h4, q⟩
    have hl : bs.length = n := by have := congrArg List.length h4; simp at this; omega
    obtain ⟨t, ht, hr⟩ := hb A outer s H E p D (fun i => bs.getD i false) (by simp [cxH]) h1 h2 h3 (fun i C hC => by
      have e := congrArg (fun l => l[i]?) h4
      simp only [List.getElem?_map, hC, Option.map_some] at e
      cases z : bs[i]? with
      | none => rw [z] at e; cases e
      | some b => rw [z] at e; simp only [Option.map_some, Option.some.injEq] at e; rw [e, List.getD_eq_getElem?_getD, z]; rfl)
    have eb : (List.range n).map (fun i => bs.getD i false) = bs := by
      refine List.ext_getElem (by simp [hl]) fun i h1 h2 => ?_
      simp [List.getD_eq_getElem?_getD, h2]
    rw [eb] at hr
    exact ⟨t, ht, hr _ _ H rfl (show 1 < 2 by decide) (fun _ z => by cases z) q⟩
structure DefOkE (P : Program) (w : World) (K : PySem.W.Frag) (mg : Str → Option Value) (base : Heap) (k : Nat) (x : Str) (sp : Addr × Obj → Sp) : Prop where
  ex : ∃ (f : Addr) (fd : FuncData) (y : Str), mg x = some (.ref f) ∧ PySem.W.keepIn K (.ref f) = true ∧ Binds K fd [y] [] ∧ FnE P w K mg base C8.CX0 k f fd [y] sp
structure DefOkH (P : Program) (w : World) (K : PySem.W.Frag) (mg : Str → Option Value) (base : Heap) (k : Nat) (x : Str) (sp : Sp) : Prop where
  ex : ∃ (f : Addr) (fd : FuncData) (y : Str), mg x = some (.ref f) ∧ PySem.W.keepIn K (.ref f) = true ∧ Binds K fd [y] [] ∧ FnH P w K mg base C8.CX0 k f fd [y] sp
def markWrd (K : PySem.W.Frag) (Cs : List Addr) (no plus sep names : Str) : Wrd := fun k dx H w => ∃ (D : Addr) (bs : List Bool), k = .ref D ∧ dx = none ∧ ExcC K D ∧ (Cs.map fun c => PySem.W.kitOne K (.ref D) (.ref c)) = bs.map some ∧ (Txt.split names sep).length = bs.length ∧
  ((picks (Txt.split names sep) bs).map (·.length)).sum + (picks (Txt.split names sep) bs).length * plus.length ≤ 16777216 ∧ no.length + (Txt.join plus (picks (Txt.split names sep) bs)).length ≤ sizeLine ∧ w = no ++ Txt.join plus (picks (Txt.split names sep) bs)
theorem suite_marks {X : Cx} {N : List Str} {x n2 n3 f1 f2 no plus sep names : Str} {sg : Scope} {g : Addr} {cdv : Value} {Cs : List Addr} {j : Nat} {p1 p2 p3 p4 p5 p6 p7 p8 p9 : Pos} (nd : N.Nodup) (i2 : N[2]? = some n2) (i3 : N[3]? = some n3) (l2 : sg.names.lookup n2 = some .local) (l3 : sg.names.lookup n3 = some .local)
    (g1 : sg.names.lookup f1 = some .globalImplicit) (g2 : sg.names.lookup f2 = some .globalImplicit) (F1 : DefOkE X.prog X.w X.K X.mg X.base 1 f1 (spMarks X.K Cs)) (F2 : DefOkH X.prog X.w X.K X.mg X.base 1 f2 (spMarked plus sep names))
    (d3 : (n3 == ("__debug__" : Str)) = false := by decide) (d4 : (n3 == ("__classdict__" : Str)) = false := by decide) (e1 : (f1 == ("__debug__" : Str)) = false := by decide) (e2 : (f2 == ("__debug__" : Str)) = false := by decide) :
    SuiteOk X N x sg g cdv [.Assign [.Name n2 p1] (.BinOp (.Constant (.str no) j p2) .Add (.Call (.Name f2 p3) [.Call (.Name f1 p4) [.Name n3 p5] [] p6] [] p7) p8) p9] (markWrd X.K Cs no plus sep names) := by
  intro s H e o k dx pn room zn hf
  obtain ⟨a1, fd1, y1, h1, h2, h3, h4⟩ := F1.ex
  obtain ⟨a2, fd2, y2, k1, k2, k3, k4⟩ := F2.ex
  have hot1 : Hot1 ((zcx X N x sg g cdv s H).suite e ((e, o) :: pn)).A (e, o) := by
    obtain ⟨vs, hv⟩ := hf
    exact ⟨rfl, vs, hv, zn.2.2 vs hv⟩
  have hotP : HotP ((zcx X N x sg g cdv s H).suite e ((e, o) :: pn)) (e, o) := ⟨hot1, List.mem_cons_self⟩
  have rh : RoomH 1 ((zcx X N x sg g cdv s H).suite e ((e, o) :: pn)).A := ⟨(roomH_of room).dp, (roomH_of room).un⟩
  refine Ly.PSs.weak (pss_one (ps_set (X := (zcx X N x sg g cdv s H).suite e ((e, o) :: pn)) (i := 2) nd i2 (.inl l2) (pe_op op_add_str pe_str
    (pe_callH (E := fun _ _ _ _ => False) k4 rh ⟨_, hotP⟩ g2 k1 k2 k3 (fun _ _ _ _ _ _ _ z => False.elim z) (pa_cons (pe_callE (E := fun _ _ _ _ => False) h4 rh hotP g1 h1 h2 h3 (fun _ _ _ _ _ _ _ z => False.elim z) (pa_cons (pe_var (i := 3) i3 (.inl l3) d3 d4) pa_nil) e1) pa_nil) e2)) rfl (.inr l2))) ?_
  rintro D σ Hx ⟨w, ⟨C, bs, rfl, rfl, m1, m2, m3, m4, m5, rfl⟩, free, he, hl, q⟩
  refine ⟨V.ref e, he, C, bs, rfl, m1, zn.zc, hf, m2, fun l H1 g1 n1 at1 => ?_⟩
  refine ⟨l, bs, rfl, at1, m3, m4, fun H2 g2 => ?_⟩
  exact ⟨no, _, rfl, rfl, m5, q H2 fun b u z => g2 _ _ (g1 _ _ z)⟩
end Tri
end

section
set_option maxRecDepth 100000
set_option maxHeartbeats 2000000
namespace Ly
open PySem PySem.Spec L2
open PyProof.Rows hiding St
variable [Tb]
def exW (L : List Str) (e : Exn) : Option Str := match e.fs with
  | none => if e.cls ∈ L then some ("no " ++ e.cls) else none
  | some _ => none
def trD (L : List Str) (x : Re Rv) : Re Rv := match x with
  | .ok r => (share r).bind fun d => .ok (.sh (.t [d, .s ""]))
  | .ex e => match exW L e with
    | some w => .ok (.sh (.t [.n, .s w]))
    | none => .bad
  | .bad => .bad
def eTried (L : List Str) (f : FE) : FE := fun Γ => trD L (f Γ)
structure TrOk (K : PySem.W.Frag) (mg : Str → Option Value) (cl : List (Value × Tri.Wrd)) (L : List Str) : Prop where
  word : ∀ x ∈ L, ∀ (C : Addr) (H : Hp), mg x = some (.ref C) → Tri.wWrd K cl (.ref C) none H fun w => w = "no " ++ x
structure LamF (base : Heap) (mg : Str → Option Value) (cdv : Value) (q : Str) : Prop where
  ex : ∃ c P, cdv = .ref c ∧ LamX.TabB base mg c P ∧ (P, q) ∈ Tb.T ∧ ∀ z ∈ Tb.T, z.1 = P → z.2 = q
def LC.lam (c : LC) (E : XK) : LC := { c with W := fun k d _ H => E k d H }
theorem EnvOk.lam {c : LC} {G H : Hp} {σ : St} {Γ : Env'} (e : EnvOk c G H σ Γ) (E : XK) : EnvOk (c.lam E) G H σ Γ := ⟨e.bh, e.g0, e.gh, e.gf, e.gt, e.tb, e.len, e.at', e.sep⟩
structure TriedF (X : Cx) (cl : List (Value × Tri.Wrd)) (x : Str) : Prop where
  ex : ∃ (y : Str) (g : Addr) (pg : Arguments) (bd : List Stmt) (sg : Scope) (w1 w2 w3 w4 w5 w6 oc : Value) (an od : Option Addr) (sl : Array (Option Value)) (N : List Str), X.mg x = some (.ref g) ∧ PySem.W.keepIn X.K (.ref g) = true ∧
    X.K.lookup g = some ⟨oc, od, .func (PySem.W.fnOf x x pg bd sg w1 w2 w3 w4 an w5 w6), sl⟩ ∧ PySem.W.codeIn X.K w5 x = true ∧ L2.Binds X.K (PySem.W.fnOf x x pg bd sg w1 w2 w3 w4 an w5 w6) [y] [] ∧ FnScope N [y] sg ∧ N[0]? = some y ∧ Vis sg y ∧
    (y == ("__debug__" : Str)) = false ∧ (y == ("__classdict__" : Str)) = false ∧ ∀ q, Tri.GivesN X N x sg g w5 bd y q (Tri.TTried X.K cl)
theorem wWrd_imp {K : PySem.W.Frag} {k : Value} {dx : Option Addr} {H : Hp} {P P' : Str → Prop} (h : ∀ w, P w → P' w) : ∀ cl : List (Value × Tri.Wrd), Tri.wWrd K cl k dx H P → Tri.wWrd K cl k dx H P'
  | [], z => z.elim
  | q :: r, ⟨b, h1, h2, h3⟩ => ⟨b, h1, fun z => by obtain ⟨w, a1, a2⟩ := h2 z; exact ⟨w, a1, h w a2⟩, fun z => wWrd_imp h r (h3 z)⟩
section
variable {X : Cx} {c : LC} {L : List Str} {fe : FE}
theorem re_tried (cy : Cy X c) {cl : List (Value × Tri.Wrd)} {x : Str} {k : Nat} {ps : Arguments} {e : Expr} {sc : Scope} {p lpos pos : Pos} (T : TriedF X cl x) (O : TrOk X.K X.mg cl L) (F : LamF X.base X.mg X.env.code (X.env.qual ++ "<lambda>")) (room : Room (k + 2) X.A) (hg : Gl X x)
    (S : LamX.LamS X.env.scope sc) (body : ∀ (A : Around) (outer : List Env) (s : Shared) (H : Hp) (E : XK) (f cf : Addr), Room k (A.deeper (LamX.lamEnv X sc s.heap.objs.size f cf)) → Cy (Tri.lcx X A outer s H E sc f cf) (c.lam E) → PE (Tri.lcx X A outer s H E sc f cf) e (tE (c.lam E) fe))
    (hdef : defaultsOf ps X.env = ([], []) := by rfl) (noarg : ∀ (q : Str) (cl : List (Str × Addr)) (a b d : Value), bindArgs (PySem.W.kla_fn "<lambda>" q ps e sc cl a b d) ⟨[], []⟩ = pure [] := by intro _ _ _ _ _; rfl) (hdb : (x == ("__debug__" : Str)) = false := by decide) :
    PE X (.Call (.Name x p) [.Lambda ps e sc lpos] [] pos) (tE c (eTried L fe)) := by
  obtain ⟨y, g, pg, bd, sg, w1, w2, w3, w4, w5, w6, oc, an, od, sl, N, h1, h2, h3, h4, h5, h6, h7, h8, h9, h10, h11⟩ := T.ex
  obtain ⟨cc, P, f1, f2, f3, f4⟩ := F.ex
  refine PE.weak (Tri.pe_lamN (t := fun E => tE (c.lam E) fe) (T := Tb.T) hg h1 h2 h3 h4 h5 h6 h7 h8 (h11 _) f2 f1 f3 f4 room S hdef noarg (fun A outer s H E f cf r => body A outer s H E f cf r ⟨cy.K, cy.mg, Tri.lcx_takes, rfl, cy.nd, r.units⟩) hdb h9 h10) ?_
  rintro σ H Q ⟨G, Γ, he, q⟩
  refine ⟨he.tb, fun H1 ext tabs => ?_⟩
  have gr : Gr G H G H1 := ⟨ext, Same.refl _, fun b o z => ext b o (he.gh b o z) fun ps z2 => he.gt b ps (by rw [z, z2]), fun _ _ z _ => z, id, fun _ => tabs⟩
  have he1 := he.mono gr
  intro Q1 hQ1
  refine ⟨G, Γ, he1.lam _, ?_⟩
  unfold eTried trD at q
  cases ef : fe Γ with
  | bad => rw [ef] at q; exact q
  | ex ex =>
    rw [ef] at q
    dsimp only at q
    unfold exW at q
    intro G2 H2 g2 C d hC hd
    cases efs : ex.fs with
    | some fs => rw [efs] at q; exact q.elim
    | none =>
      rw [efs] at q hd
      dsimp only at q hd
      subst hd
      split at q
      · rename_i w ew
        split at ew
        · rename_i hL
          cases ew
          refine wWrd_imp ?_ cl (O.word _ hL C H2 (by rw [cy.mg]; exact hC))
          rintro w rfl H3 p g3 np
          have gs : Same G2 H3 := fun b o z => g3 b o (g2.gh b o z)
          have g : Gr G2 H2 G2 H3 := ⟨Kept.of g3, Same.refl _, gs, fun _ _ z _ => z, id, fun t => t.ext g3⟩
          have g4 := Gr.new (o := .tup [.non, .str ("no " ++ ex.cls)]) gs np
          exact q _ _ _ (gr.trans (g2.trans (g.trans g4))) (Rep.t upd_same (.cons .n (.cons (.s _) .nil))) True.intro
        · cases ew
      · exact q.elim
  | ok r =>
    rw [ef] at q
    dsimp only at q
    intro v G2 H2 g2 rv fr
    refine hQ1 v H2 fun p np => ?_
    cases es : share r with
    | bad => rw [es] at q; exact q.elim
    | ex z => unfold share at es; split at es <;> cases es
    | ok d =>
      rw [es] at q
      obtain ⟨G3, g3, _, rp⟩ := RV.share (c := c) g2 rv fr es
      have g4 := Gr.new (o := .tup [v, .str ""]) g3.gh np
      exact q _ _ _ (gr.trans (g3.trans g4)) (Rep.t upd_same (.cons (rp.mono g4.gg) (.cons (.s _) .nil))) True.intro
end
section
variable {P : Program} {w : World} {K : PySem.W.Frag} {mg : Str → Option Value} {base : Heap}
theorem def_fnC {x qual : Str} {st : Stmt} {f : Addr} {oc kV doc pm cdv ct : Value} {od an : Option Addr} {osl : Array (Option Value)} {N ps : List Str} {k n m : Nat} {body : FS} (lk : K.lookup f = some ⟨oc, od, .func (PySem.W.fnOf x qual (defArgs st) (defBody st) (defScope st) .none kV doc pm an cdv ct), osl⟩)
    (hcd : PySem.W.codeIn K cdv qual = true) (S : FnScope N ps (defScope st)) (hn : ps.length = n) (hN : N.length = m)
    (h : ∀ (A : Around) (outer : List Env) (s : Shared) (H G : Hp) (E : XK), Room k (A.deeper (envOfC qual (defScope st) s.heap.objs.size f cdv)) →
      Cy (cxOf (L2N.CX P w) P w K mg base N qual (defScope st) f cdv A outer s H E) (dLc K mg H G E) →
      PassesOwn (model P w) (A.deeper (envOfC qual (defScope st) s.heap.objs.size f cdv)) (envOfC qual (defScope st) s.heap.objs.size f cdv) (cxOf (L2N.CX P w) P w K mg base N qual (defScope st) f cdv A outer s H E).xe →
      PSs (cxOf (L2N.CX P w) P w K mg base N qual (defScope st) f cdv A outer s H E) (defBody st) (tS (dLc K mg H G E) body)) :
    FnOk P w K mg base (L2N.CX P w) (k + 1) f (PySem.W.fnOf x qual (defArgs st) (defBody st) (defScope st) .none kV doc pm an cdv ct) ps (spF K mg n (runF n m body)) := by
  refine fn_of lk hcd S (fun vs H Q E hs => ?_) (fun A outer s H vs Q E hr hs => ?_)
  · obtain ⟨G, ds, hl, gh, r, _⟩ := hs
    rw [r.length, hl, hn]
  · obtain ⟨G, ds, hl, gh, r, q⟩ := hs
    have cy : Cy (cxOf (L2N.CX P w) P w K mg base N qual (defScope st) f cdv A outer s H E) (dLc K mg H G E) := ⟨rfl, rfl, L2N.takes_of rfl rfl rfl rfl, rfl, S.nd, hr.units⟩
    refine ⟨_, h A outer s H G E hr cy (passes_of (X := cxOf (L2N.CX P w) P w K mg base N qual (defScope st) f cdv A outer s H E) rfl), G, _, start_env gh r, ?_⟩
    have gr : ∀ {G' H' : Hp}, EndOk (dLc K mg H G E) G' H' → Gr G H G' H' := fun e => ⟨e.bh, e.g0, e.gh, e.gf, fun _ => e.gt, fun _ => e.tb⟩
    unfold runF at q
    rw [if_pos hl] at q
    rw [hN, hl]
    cases eb : body (ds.map (fun d => some (.sh d)) ++ List.replicate (m - n) none) with
    | nx Γ' => rw [eb] at q; exact fun σ' G' H' he s => q .non G' H' (gr he.end) .n
    | rt rv =>
      rw [eb] at q
      cases rv with
      | sh d => exact fun v G' H' he s hv _ => q v G' H' (gr he) hv
      | fr d => exact fun v G' H' he s ⟨p, e, bp, gp, o⟩ _ => by subst e; exact q p G' H' (gr he) bp gp o
      | bo d => exact fun v G' H' he s hv hn => absurd rfl (hn d)
    | ex e Γ' => rw [eb] at q; exact fun σ' G' H' he s C d hC hd => q G' H' (gr he.end) C d hC hd
    | bk Γ' => rw [eb] at q; exact q.elim
    | ct Γ' => rw [eb] at q; exact q.elim
    | bad => rw [eb] at q; exact q.elim
end
end Ly
end

section
set_option maxRecDepth 100000
set_option maxHeartbeats 2000000
namespace Ly
open PySem PySem.Spec L2
open PyProof.Rows hiding St
structure XW (K : PySem.W.Frag) (mg : Str → Option Value) (c1 c2 c3 c4 : Value) (Cs : List Addr) (bs : List Bool) (x : Str) : Prop where
  ex : ∃ C : Addr, mg x = some (.ref C) ∧ PySem.W.exmOne K (.ref C) c1 = some false ∧ PySem.W.exmOne K (.ref C) c2 = some false ∧ PySem.W.exmOne K (.ref C) c3 = some false ∧ PySem.W.exmOne K (.ref C) c4 = some true ∧ ExcC K C ∧
    (Cs.map fun c => PySem.W.kitOne K (.ref C) (.ref c)) = bs.map some
structure TrFacts (K : PySem.W.Frag) (mg : Str → Option Value) (nl L : List Str) : Prop where
  ex : ∃ (c1 c2 c3 c4 : Value) (Cs : List Addr), mg "Clash" = some c1 ∧ mg "NotOn" = some c2 ∧ mg "BadText" = some c3 ∧ mg "DanceError" = some c4 ∧ Tri.ClsRow mg nl Cs ∧ Cs.length = nl.length ∧ ∀ x ∈ L, XW K mg c1 c2 c3 c4 Cs (nl.map (· == x)) x
def wordB (plus sep names : Str) (nl L : List Str) : Bool := L.all fun x => decide ((Txt.split names sep).length = nl.length) && decide (((Tri.picks (Txt.split names sep) (nl.map (· == x))).map (·.length)).sum + (Tri.picks (Txt.split names sep) (nl.map (· == x))).length * plus.length ≤ 16777216) &&
  decide (("no " : Str).length + (Txt.join plus (Tri.picks (Txt.split names sep) (nl.map (· == x)))).length ≤ 1000) && decide (("no " : Str) ++ Txt.join plus (Tri.picks (Txt.split names sep) (nl.map (· == x))) = "no " ++ x)
theorem trOk_of {K : PySem.W.Frag} {mg : Str → Option Value} {c1 c2 c3 c4 : Value} {Cs : List Addr} {nl L : List Str} {plus sep names : Str} (h : ∀ x ∈ L, XW K mg c1 c2 c3 c4 Cs (nl.map (· == x)) x) (hw : wordB plus sep names nl L = true) :
    TrOk K mg [(c1, Tri.noWrd), (c2, Tri.noWrd), (c3, Tri.noWrd), (c4, Tri.markWrd K Cs "no " plus sep names)] L := by
  refine ⟨fun x hx C H hC => ?_⟩
  obtain ⟨C', h0, h1, h2, h3, h4, h5, h6⟩ := (h x hx).ex
  rw [h0] at hC
  cases hC
  have w := List.all_eq_true.mp hw x hx
  simp only [Bool.and_eq_true, decide_eq_true_eq] at w
  obtain ⟨⟨⟨w1, w2⟩, w3⟩, w4⟩ := w
  have nf : ∀ {A : Prop}, false = true → A := fun z => Bool.noConfusion z
  have nt : ∀ {A : Prop}, true = false → A := fun z => Bool.noConfusion z
  refine ⟨false, h1, nf, fun _ => ⟨false, h2, nf, fun _ => ⟨false, h3, nf, fun _ => ⟨true, h4, fun _ => ?_, nt⟩⟩⟩⟩
  exact ⟨_, ⟨C, _, rfl, rfl, h5, h6, by rw [List.length_map]; exact w1, w2, by rw [sizeLine_eq]; omega, rfl⟩, w4⟩
structure TriedOk (X : Cx) (L : List Str) (x : Str) : Prop where
  ex : ∃ cl, TriedF X cl x ∧ TrOk X.K X.mg cl L
section
variable [Tb] {X : Cx} {c : LC} {L : List Str} {fe : FE}
theorem re_tr (cy : Cy X c) {x : Str} (k : Nat) {ps : Arguments} {e : Expr} {sc : Scope} {p lpos pos : Pos} (T : TriedOk X L x) (F : LamF X.base X.mg X.env.code (X.env.qual ++ "<lambda>")) (room : Room (k + 2) X.A)
    (body : ∀ (A : Around) (outer : List Env) (s : Shared) (H : Hp) (E : XK) (f cf : Addr), Room k (A.deeper (LamX.lamEnv X sc s.heap.objs.size f cf)) → Cy (Tri.lcx X A outer s H E sc f cf) (c.lam E) → PE (Tri.lcx X A outer s H E sc f cf) e (tE (c.lam E) fe))
    (hg : Gl X x := by rfl) (S : LamX.LamS X.env.scope sc := by exact LamX.lamS_by (by decide +kernel))
    (hdef : defaultsOf ps X.env = ([], []) := by rfl) (noarg : ∀ (q : Str) (cl : List (Str × Addr)) (a b d : Value), bindArgs (PySem.W.kla_fn "<lambda>" q ps e sc cl a b d) ⟨[], []⟩ = pure [] := by intro _ _ _ _ _; rfl) (hdb : (x == ("__debug__" : Str)) = false := by decide) :
    PE X (.Call (.Name x p) [.Lambda ps e sc lpos] [] pos) (tE c (eTried L fe)) := by
  obtain ⟨cl, T1, T2⟩ := T.ex
  exact re_tried cy T1 T2 F room hg S body hdef noarg hdb
end
def noTbl (H : Hp) : Hp := fun b => match H b with
  | some (.tbl _) => none
  | o => o
theorem noTbl_same {H : Hp} : Same (noTbl H) H := fun b o e => by
  unfold noTbl at e
  split at e
  · cases e
  · exact e
theorem noTbl_no {H : Hp} : NoT (noTbl H) := fun b ps e => by
  unfold noTbl at e
  split at e
  · cases e
  · rename_i h
    exact h ps e
theorem noTbl_at {H : Hp} {b : Addr} {o : HO} (e : H b = some o) (h : ∀ ps, o ≠ .tbl ps) : noTbl H b = some o := by
  unfold noTbl
  split
  · rename_i ps z
    rw [e] at z
    exact absurd (Option.some.inj z) (h ps)
  · exact e
theorem noTbl_seq {K : PySem.W.Frag} {H : Hp} {a : Addr} {xs : List V} (h : SqL K H a xs) : SqL K (noTbl H) a xs := by
  rcases h with (h | ⟨o, h⟩) | h
  · exact .inl (.inl (noTbl_at h fun _ z => by cases z))
  · exact .inl (.inr ⟨o, noTbl_at h fun _ z => by cases z⟩)
  · exact .inr h
theorem walk_lawT {l : PySem.W.OpenLaw} {q : Program} {loose : List Str} {XP : (Str → Option Value) → Heap → Prop} {YP : World → Heap → Prop} {d : DefRec} {K : Params → PySem.W.Frag} {k : Nat} {x : Str} {F : List D → Re Rv} (hn : l.most = some 63) (hdf : d.params.defaults = []) (hr : Room k callerA)
    (hY : ∀ (w : World) (h : Heap), YP w h → (K w.params).In h)
    (hF : ∀ (w : World) (mg : Str → Option Value) (fa : Addr) (h : Heap), YP w h → (K w.params).In h → h.Ns mainGlobals mg → mg d.name = some (.ref fa) →
      ∃ (fd : FuncData) (cs : List (Addr × Addr × Str)), (∀ p ∈ cs, h.get? p.2.1 = some { cls := .none, data := .fields #[] } ∧ (K w.params).lookup p.2.1 = none ∧ PySem.W.CodeHd h p.1 p.2.1) ∧ (∀ (s : Shared) (u : Value), BindsTo s fd ⟨[u], []⟩ [(x, u)]) ∧
        ∀ base : Heap, (K w.params).In base → base.Ns mainGlobals mg → (∀ p ∈ cs, LamX.TabB base mg p.1 p.2.1) → FnOk l.prog w (K w.params) mg base (L2N.CX l.prog w) k fa fd [x] (@spF ⟨cs.map fun p => (p.2.1, p.2.2)⟩ (K w.params) mg 1 F))
    (ht : ∀ ns : List Int, ns.length ≤ 63 → F [.z (ns.map .i)] = .ok (.sh (.b true))) :
    PySem.W.WalkO q loose XP YP l.row.toRowW d [] (fun f vs => PySem.call f vs) := by
  refine LamX.walk_ofTs (n := 63) (k := k) (x := x) (CX := fun w => L2N.CX l.prog w) hn (by decide) hdf hr hY ?_ ?_
  · intro w mg fa h Y KX G hmg
    obtain ⟨fd, cs, h1, h2, h3⟩ := hF w mg fa h Y KX G hmg
    refine ⟨fd, cs.map fun p => (p.1, p.2.1), fun vs H Q _ => ∃ (a : Addr) (ns : List Int), vs = [.ref a] ∧ SqL (K w.params) H a (ns.map V.int) ∧ ns.length ≤ 63 ∧ (∀ p ∈ cs, H p.2.1 = some (.tbl #[])) ∧ ∀ H', Q (.bl true) H', ?_, ?_, ?_, h2, ?_, ?_⟩
    · intro p hp
      obtain ⟨z, hz, rfl⟩ := List.mem_map.mp hp
      exact (h1 z hz).1
    · intro p hp
      obtain ⟨z, hz, rfl⟩ := List.mem_map.mp hp
      exact (h1 z hz).2.1
    · intro p hp
      obtain ⟨z, hz, rfl⟩ := List.mem_map.mp hp
      exact (h1 z hz).2.2
    · exact fun H a ns hl _ hT hS => ⟨a, ns, rfl, hS, hl, fun p hp => hT (p.1, p.2.1) (List.mem_map.mpr ⟨p, hp, rfl⟩), fun _ => rfl⟩
    · intro base hK hG hB
      refine (h3 base hK hG fun p hp => hB (p.1, p.2.1) (List.mem_map.mpr ⟨p, hp, rfl⟩)).imp fun vs H Q E ⟨a, ns, e, hs, hl, hT, hq⟩ => ?_
      subst e
      refine ⟨noTbl H, [.z (ns.map .i)], rfl, @Ok0.mk ⟨cs.map fun p => (p.2.1, p.2.2)⟩ _ _ noTbl_same noTbl_no fun q hq => ?_, .cons (.z (noTbl_seq hs) (Reps.ofInts ns)) .nil, ?_⟩
      · obtain ⟨p, hp, rfl⟩ := List.mem_map.mp hq
        exact LamX.TabS.nil (hT p hp)
      · rw [ht ns hl]
        intro v G' H' g rv
        cases rv.bl_inv
        exact hq H'
  · intro w H s e s' h
    obtain ⟨_, _, _, _, _, _, _, _, _, _, _, _, z⟩ := h
    exact z
end Ly
end

section
set_option maxRecDepth 100000
set_option maxHeartbeats 2000000
namespace Ly
open PySem PySem.Spec L2
open PyProof.Rows hiding St
structure FunC (K : PySem.W.Frag) (x qual : Str) (st : Stmt) (f : Addr) (fd : FuncData) (cdv : Value) : Prop where
  ex : ∃ (oc kV doc pm ct : Value) (od an : Option Addr) (osl : Array (Option Value)), fd = PySem.W.fnOf x qual (defArgs st) (defBody st) (defScope st) .none kV doc pm an cdv ct ∧ K.lookup f = some ⟨oc, od, .func fd, osl⟩ ∧ PySem.W.codeIn K cdv qual = true
  kp : PySem.W.keepIn K (.ref f) = true
theorem FunC.of {K : PySem.W.Frag} {x qual : Str} {st : Stmt} {f : Addr} {oc kV doc pm cdv ct : Value} {od an : Option Addr} {osl : Array (Option Value)} (lk : K.lookup f = some ⟨oc, od, .func (PySem.W.fnOf x qual (defArgs st) (defBody st) (defScope st) .none kV doc pm an cdv ct), osl⟩)
    (hc : PySem.W.codeIn K cdv qual = true) (kp : PySem.W.keepIn K (.ref f) = true) : FunC K x qual st f (PySem.W.fnOf x qual (defArgs st) (defBody st) (defScope st) .none kV doc pm an cdv ct) cdv := ⟨⟨oc, kV, doc, pm, ct, od, an, osl, rfl, lk, hc⟩, kp⟩
theorem FunC.fun {K : PySem.W.Frag} {x qual : Str} {st : Stmt} {f : Addr} {fd : FuncData} {cdv : Value} (h : FunC K x qual st f fd cdv) : Fun K x qual st f fd := by
  obtain ⟨oc, kV, doc, pm, ct, od, an, osl, rfl, lk, hc⟩ := h.ex
  exact fun_mk lk hc h.kp
section
variable [Tb] {P : Program} {w : World} {K : PySem.W.Frag} {mg : Str → Option Value} {base : Heap}
theorem def_fnF {x qual : Str} {st : Stmt} {f : Addr} {fd : FuncData} {cdv : Value} {N ps : List Str} {k n m : Nat} {body : FS} (F : FunC K x qual st f fd cdv) (S : FnScope N ps (defScope st)) (hn : ps.length = n) (hN : N.length = m)
    (h : ∀ (A : Around) (outer : List Env) (s : Shared) (H G : Hp) (E : XK), Room k (A.deeper (envOfC qual (defScope st) s.heap.objs.size f cdv)) →
      Cy (cxOf (L2N.CX P w) P w K mg base N qual (defScope st) f cdv A outer s H E) (dLc K mg H G E) →
      PassesOwn (model P w) (A.deeper (envOfC qual (defScope st) s.heap.objs.size f cdv)) (envOfC qual (defScope st) s.heap.objs.size f cdv) (cxOf (L2N.CX P w) P w K mg base N qual (defScope st) f cdv A outer s H E).xe →
      PSs (cxOf (L2N.CX P w) P w K mg base N qual (defScope st) f cdv A outer s H E) (defBody st) (tS (dLc K mg H G E) body)) :
    FnOk P w K mg base (L2N.CX P w) (k + 1) f fd ps (spF K mg n (runF n m body)) := by
  obtain ⟨oc, kV, doc, pm, ct, od, an, osl, rfl, lk, hc⟩ := F.ex
  exact def_fnC lk hc S hn hN h
theorem lamF_of {mg : Str → Option Value} {base : Heap} {c P : Addr} {q : Str} (h : LamX.TabB base mg c P) (hm : (P, q) ∈ Tb.T) (hu : ∀ z ∈ Tb.T, z.1 = P → z.2 = q) : LamF base mg (.ref c) q := ⟨c, P, rfl, h, hm, hu⟩
end
end Ly
namespace Tri
open PySem PySem.Spec L2
theorem ClsRow.nil {mg : Str → Option Value} : ClsRow mg [] [] := ⟨fun i x h => by simp at h⟩
theorem ClsRow.cons {mg : Str → Option Value} {x : Str} {C : Addr} {nl : List Str} {Cs : List Addr} (h : mg x = some (.ref C)) (r : ClsRow mg nl Cs) : ClsRow mg (x :: nl) (C :: Cs) := ⟨fun i y hy => by
  cases i with
  | zero => cases hy; exact ⟨C, rfl, h⟩
  | succ i => exact r.at' i y hy⟩
end Tri
end

section
set_option maxRecDepth 100000
set_option maxHeartbeats 2000000
namespace Ly
open PySem PySem.Spec L2
open PyProof.Rows hiding St
section
variable {X : Cx} {a b c d : Expr} {ta tb tc td : TE} {pos : Pos}
def tCh3 (r1 r2 r3 : R2) (ta tb tc td : TE) : TE := fun σ H Q => ta σ H fun x H1 => tb σ H1 fun y H2 => r1 x y H2 fun z H3 => ∃ k, z = .bl k ∧
  (if k = true then tc σ H3 fun u H4 => r2 y u H4 fun z2 H5 => ∃ k2, z2 = .bl k2 ∧ (if k2 = true then td σ H5 fun v H6 => r3 u v H6 Q else Q (.bl false) H5) else Q (.bl false) H3)
theorem pe_ch3 {o1 o2 o3 : CmpOp} {r1 r2 r3 : R2} (h1 : OpR X (compareOp o1) r1) (h2 : OpR X (compareOp o2) r2) (h3 : OpR X (compareOp o3) r3) (ha : PE X a ta) (hb : PE X b tb) (hc : PE X c tc) (hd : PE X d td)
    (hm : lastMarks [o1, o2, o3] [b, c, d] = false := by with_unfolding_all rfl) : PE X (.Compare a [o1, o2, o3] [b, c, d] pos) (tCh3 r1 r2 r3 ta tb tc td) := by
  refine ⟨fun pins s σ H Q I h => ?_⟩
  refine Compare_chain (thn (ha.run pins s σ H _ I h) fun v s1 ⟨x, H1, I1, q1, w1⟩ => chain_link (thn (hb.run pins s1 σ H1 _ I1 w1) fun u s2 ⟨y, H2, I2, q2, w2⟩ => thn (h1 pins s2 σ H2 x y v u _ I2 q1 q2 w2) ?_)) hm
  rintro e s3 ⟨z, H3, I3, q3, k, rfl, w3⟩
  cases q3
  refine wpAny_truthy_bool ?_
  cases k with
  | false => exact ite_ff ⟨.bl false, H3, I3, rfl, w3⟩
  | true =>
    refine ite_tt (chain_link (thn (hc.run pins s3 σ H3 _ I3 w3) fun p s4 ⟨z4, H4, I4, q4, w4⟩ => thn (h2 pins s4 σ H4 y z4 u p _ I4 q2 q4 w4) ?_))
    rintro e2 s5 ⟨z5, H5, I5, q5, k2, rfl, w5⟩
    cases q5
    refine wpAny_truthy_bool ?_
    cases k2 with
    | false => exact ite_ff ⟨.bl false, H5, I5, rfl, w5⟩
    | true => exact ite_tt (chain_last (thn (hd.run pins s5 σ H5 _ I5 w5) fun p2 s6 ⟨z6, H6, I6, q6, w6⟩ => h3 pins s6 σ H6 z4 z6 p p2 Q I6 q4 q6 w6))
theorem pt_ch3 {o1 o2 o3 : CmpOp} {r1 r2 r3 : R2} (h1 : OpR X (compareOp o1) r1) (h2 : OpR X (compareOp o2) r2) (h3 : OpR X (compareOp o3) r3) (ha : PE X a ta) (hb : PE X b tb) (hc : PE X c tc) (hd : PE X d td)
    (hm : lastMarks [o1, o2, o3] [b, c, d] = false := by with_unfolding_all rfl) : L2.PT X (.Compare a [o1, o2, o3] [b, c, d] pos) (tTest (tCh3 r1 r2 r3 ta tb tc td)) := by
  refine ⟨fun pins s σ H Q I h => ?_⟩
  refine isTrue_chain (thn (ha.run pins s σ H _ I h) fun v s1 ⟨x, H1, I1, q1, w1⟩ => test_link (thn (hb.run pins s1 σ H1 _ I1 w1) fun u s2 ⟨y, H2, I2, q2, w2⟩ => thn (h1 pins s2 σ H2 x y v u _ I2 q1 q2 w2) ?_)) hm
  rintro e s3 ⟨z, H3, I3, q3, k, rfl, w3⟩
  cases q3
  refine wpAny_truthy_bool ?_
  cases k with
  | false => obtain ⟨k', ek, qk⟩ := w3; cases ek; exact ite_ff ⟨H3, I3, qk⟩
  | true =>
    refine ite_tt (test_link (thn (hc.run pins s3 σ H3 _ I3 w3) fun p s4 ⟨z4, H4, I4, q4, w4⟩ => thn (h2 pins s4 σ H4 y z4 u p _ I4 q2 q4 w4) ?_))
    rintro e2 s5 ⟨z5, H5, I5, q5, k2, rfl, w5⟩
    cases q5
    refine wpAny_truthy_bool ?_
    cases k2 with
    | false => obtain ⟨k', ek, qk⟩ := w5; cases ek; exact ite_ff ⟨H5, I5, qk⟩
    | true =>
      refine ite_tt (test_last (thn (hd.run pins s5 σ H5 _ I5 w5) fun p2 s6 ⟨z6, H6, I6, q6, w6⟩ => thn (h3 pins s6 σ H6 z4 z6 p p2 _ I6 q4 q6 w6) ?_))
      rintro e3 s7 ⟨z7, H7, I7, q7, k3, rfl, w7⟩
      cases q7
      exact wpAny_truthy_bool ⟨H7, I7, w7⟩
end
section
variable [Tb] {X : Cx} {c : LC} {a b e d : Expr} {f g h l : FE} {pos : Pos}
def eCh3 (k1 k2 k3 : Rv → Rv → Re Rv) (f g h l : FE) : FE := fun Γ => (f Γ).bind fun x => (g Γ).bind fun y => (k1 x y).bind fun z => match z with
  | .sh (.b true) => (h Γ).bind fun u => (k2 y u).bind fun z2 => match z2 with
    | .sh (.b true) => (l Γ).bind fun v => k3 u v
    | .sh (.b false) => .ok (.sh (.b false))
    | _ => .bad
  | .sh (.b false) => .ok (.sh (.b false))
  | _ => .bad
theorem ch3_weak {k1 k2 k3 : Rv → Rv → Re Rv} {r1 r2 r3 : R2} (o1 : Ok2 c r1 k1) (o2 : Ok2 c r2 k2) (o3 : Ok2 c r3 k3) : ∀ σ H Q, tE c (eCh3 k1 k2 k3 f g h l) σ H Q → tCh3 r1 r2 r3 (tE c f) (tE c g) (tE c h) (tE c l) σ H Q := by
  rintro σ H Q ⟨G, Γ, he, q⟩
  refine eE he q fun rx x G1 H1 _ g1 v1 _ he1 q1 => ?_
  refine eE he1 q1 fun ry y G2 H2 _ g2 v2 _ he2 q2 => ?_
  refine o1 σ G2 H2 x y rx ry _ he2.gh he2.bh (v1.mono g2) v2 ?_
  cases e : k1 rx ry with
  | bad => rw [e] at q2; exact q2
  | ex o => rw [e] at q2; exact q2
  | ok z =>
    rw [e] at q2
    simp only [Re.bind_ok] at q2
    intro v G3 H3 g3 v3 _
    have he3 := he2.mono g3
    split at q2
    · cases (Rep.bl_inv v3)
      refine ⟨true, rfl, ?_⟩
      rw [if_pos rfl]
      have q3 := Post.later g3 q2
      refine eE he3 q3 fun ru u G4 H4 _ g4 v4 _ he4 q4 => ?_
      refine o2 σ G4 H4 y u ry ru _ he4.gh he4.bh ((v2.mono g3).mono g4) v4 ?_
      cases e2 : k2 ry ru with
      | bad => rw [e2] at q4; exact q4
      | ex o => rw [e2] at q4; exact q4
      | ok z2 =>
        rw [e2] at q4
        simp only [Re.bind_ok] at q4
        intro v5 G5 H5 g5 w5 _
        have he5 := he4.mono g5
        split at q4
        · cases (Rep.bl_inv w5)
          refine ⟨true, rfl, ?_⟩
          rw [if_pos rfl]
          have q5 := Post.later g5 q4
          exact eE he5 q5 fun rv v6 G6 H6 _ g6 w6 _ he6 q6 => o3 σ G6 H6 u v6 ru rv Q he6.gh he6.bh ((v4.mono g5).mono g6) w6 q6
        · cases (Rep.bl_inv w5)
          refine ⟨false, rfl, ?_⟩
          rw [if_neg Bool.false_ne_true]
          exact q4 _ G5 H5 g5 (.b false) True.intro
        · exact q4.elim
    · cases (Rep.bl_inv v3)
      refine ⟨false, rfl, ?_⟩
      rw [if_neg Bool.false_ne_true]
      exact q2 _ G3 H3 g3 (.b false) True.intro
    · exact q2.elim
theorem re_ch3 {p1 p2 p3 : CmpOp} {k1 k2 k3 : Rv → Rv → Re Rv} (h1 : CmpD X c p1 k1) (h2 : CmpD X c p2 k2) (h3 : CmpD X c p3 k3) (ha : PE X a (tE c f)) (hb : PE X b (tE c g)) (he : PE X e (tE c h)) (hd : PE X d (tE c l))
    (hm : lastMarks [p1, p2, p3] [b, e, d] = false := by with_unfolding_all rfl) : PE X (.Compare a [p1, p2, p3] [b, e, d] pos) (tE c (eCh3 k1 k2 k3 f g h l)) := by
  obtain ⟨r1, o1, w1⟩ := h1.ex
  obtain ⟨r2, o2, w2⟩ := h2.ex
  obtain ⟨r3, o3, w3⟩ := h3.ex
  exact PE.weak (pe_ch3 o1 o2 o3 ha hb he hd hm) (ch3_weak w1 w2 w3)
theorem rt_ch3 {p1 p2 p3 : CmpOp} {k1 k2 k3 : Rv → Rv → Re Rv} (h1 : CmpD X c p1 k1) (h2 : CmpD X c p2 k2) (h3 : CmpD X c p3 k3) (ha : PE X a (tE c f)) (hb : PE X b (tE c g)) (he : PE X e (tE c h)) (hd : PE X d (tE c l))
    (hm : lastMarks [p1, p2, p3] [b, e, d] = false := by with_unfolding_all rfl) : L2.PT X (.Compare a [p1, p2, p3] [b, e, d] pos) (tT c (tV (eCh3 k1 k2 k3 f g h l))) := by
  obtain ⟨r1, o1, w1⟩ := h1.ex
  obtain ⟨r2, o2, w2⟩ := h2.ex
  obtain ⟨r3, o3, w3⟩ := h3.ex
  exact tV_test (pt_ch3 o1 o2 o3 ha hb he hd hm) (ch3_weak w1 w2 w3)
end
section
variable {m : Nat} {L : Lk} {k k1 k2 k3 k4 : Kd} {α β γ δ τ : Type} {e : τ → D} {ea : α → D} {eb : β → D} {ec : γ → D} {ed : δ → D} {f g h l : FE}
theorem er_ch3 {a : α} {b : β} {c : γ} {d : δ} {p q r : Bool} {o1 o2 o3 : Rv → Rv → Re Rv} (hx : ER m L k1 ea (.ok a) f) (hy : ER m L k2 eb (.ok b) g) (hz : ER m L k3 ec (.ok c) h) (hw : ER m L k4 ed (.ok d) l)
    (h1 : RE1 .sh eB (.ok p) (o1 (k1.v (ea a)) (k2.v (eb b)))) (h2 : RE1 .sh eB (.ok q) (o2 (k2.v (eb b)) (k3.v (ec c)))) (h3 : RE1 .sh eB (.ok r) (o3 (k3.v (ec c)) (k4.v (ed d)))) :
    ER m L .sh eB (.ok (p && q && r)) (eCh3 o1 o2 o3 f g h l) := fun Γ hΓ => by
  have e1 : f Γ = .ok _ := hx Γ hΓ
  have e2 : g Γ = .ok _ := hy Γ hΓ
  have e3 : h Γ = .ok _ := hz Γ hΓ
  have e4 : l Γ = .ok _ := hw Γ hΓ
  have h1 : o1 _ _ = .ok (.sh (.b p)) := h1
  have h2 : o2 _ _ = .ok (.sh (.b q)) := h2
  have h3 : o3 _ _ = .ok (.sh (.b r)) := h3
  show eCh3 o1 o2 o3 f g h l Γ = _
  unfold eCh3
  rw [e1, Re.bind_ok, e2, Re.bind_ok, h1, Re.bind_ok]
  cases p with
  | false => rfl
  | true =>
    dsimp only
    rw [e3, Re.bind_ok, h2, Re.bind_ok]
    cases q with
    | false => rfl
    | true => dsimp only; rw [e4, Re.bind_ok, h3]; rfl
theorem er_ch3g {x : Re α} {y : Re β} {z : Re γ} {w : Re δ} {p : α → β → Bool} {q : β → γ → Bool} {r : γ → δ → Bool} {o1 o2 o3 : Rv → Rv → Re Rv} (hx : ER m L k1 ea x f) (hy : ER m L k2 eb y g) (hz : ER m L k3 ec z h) (hw : ER m L k4 ed w l)
    (h1 : ∀ a b, RE1 .sh eB (.ok (p a b)) (o1 (k1.v (ea a)) (k2.v (eb b)))) (h2 : ∀ b c, RE1 .sh eB (.ok (q b c)) (o2 (k2.v (eb b)) (k3.v (ec c)))) (h3 : ∀ c d, RE1 .sh eB (.ok (r c d)) (o3 (k3.v (ec c)) (k4.v (ed d)))) :
    ER m L .sh eB (x.bind fun a => y.bind fun b => if p a b = true then z.bind fun c => (if q b c = true then w.bind fun d => .ok (r c d) else .ok false) else .ok false) (eCh3 o1 o2 o3 f g h l) := fun Γ hΓ => by
  have e1 := hx Γ hΓ
  show RE1 _ _ _ (eCh3 o1 o2 o3 f g h l Γ)
  unfold eCh3
  cases x with
  | bad => trivial
  | ex u => have e1 : f Γ = .ex u := e1; rw [e1]; rfl
  | ok a =>
    have e1 : f Γ = .ok _ := e1
    rw [e1, Re.bind_ok, Re.bind_ok]
    have e2 := hy Γ hΓ
    cases y with
    | bad => trivial
    | ex u => have e2 : g Γ = .ex u := e2; rw [e2]; rfl
    | ok b =>
      have e2 : g Γ = .ok _ := e2
      have h1 : o1 _ _ = .ok (.sh (.b (p a b))) := h1 a b
      rw [e2, Re.bind_ok, Re.bind_ok, h1, Re.bind_ok]
      cases hp : p a b with
      | false => rfl
      | true =>
        dsimp only
        rw [if_pos rfl]
        have e3 := hz Γ hΓ
        cases z with
        | bad => trivial
        | ex u => have e3 : h Γ = .ex u := e3; rw [e3]; rfl
        | ok c =>
          have e3 : h Γ = .ok _ := e3
          have h2 : o2 _ _ = .ok (.sh (.b (q b c))) := h2 b c
          rw [e3, Re.bind_ok, Re.bind_ok, h2, Re.bind_ok]
          cases hq : q b c with
          | false => rfl
          | true =>
            dsimp only
            rw [if_pos rfl]
            have e4 := hw Γ hΓ
            cases w with
            | bad => trivial
            | ex u => have e4 : l Γ = .ex u := e4; rw [e4]; rfl
            | ok d =>
              have e4 : l Γ = .ok _ := e4
              rw [e4, Re.bind_ok, Re.bind_ok]
              exact h3 c d
end
end Ly
end

section
set_option maxRecDepth 100000
set_option maxHeartbeats 2000000
namespace Ly
open PySem PySem.Spec L2
open PyProof.Rows hiding St
section
variable {m : Nat} {L : Lk} {k k1 k2 k3 k4 : Kd} {α β γ δ τ : Type} {e : τ → D} {ea : α → D} {eb : β → D} {f g h l : FE}
def eO (e : α → D) : Option α → D
  | none => .n
  | some a => e a
theorem er_no : ER m L .sh (eO ea) (.ok none) (eC .n) := fun _ _ => rfl
theorem er_sop {a : α} (hx : ER m L k ea (.ok a) f) : ER m L k (eO ea) (.ok (some a)) f := hx
theorem er_so {x : Re α} (hx : ER m L k ea x f) : ER m L k (eO ea) (x.bind fun a => .ok (some a)) f := fun Γ hΓ => by
  have h1 := hx Γ hΓ
  cases x with
  | ok a => exact h1
  | ex z => exact h1
  | bad => trivial
def trT (xs : List Str) (x : Re α) : Re (Option α × Str) := match x with
  | .ok a => .ok (some a, "")
  | .ex z => match exW xs z with
    | some w => .ok (none, w)
    | none => .bad
  | .bad => .bad
theorem er_tried {xs : List Str} {x : Re α} (hk : k.ok = true) (hx : ER m L k ea x f) : ER m L .sh (eP2 (eO ea) eS) (trT xs x) (eTried xs f) := fun Γ hΓ => by
  have h1 := hx Γ hΓ
  show RE1 _ _ (trT xs x) (trD xs (f Γ))
  cases x with
  | bad => trivial
  | ok a =>
    have h1 : f Γ = .ok (k.v (ea a)) := h1
    rw [h1]
    show (Ly.share (k.v (ea a))).bind _ = _
    rw [Kd.share hk]
    rfl
  | ex z =>
    have h1 : f Γ = .ex z := h1
    rw [h1]
    unfold trT trD
    dsimp only
    cases exW xs z with
    | some w => rfl
    | none => trivial
end
end Ly
end

section
set_option maxRecDepth 100000
set_option maxHeartbeats 2000000
namespace Ly
open PySem PySem.Spec L2
open PyProof.Rows hiding St
section
variable [Tb] {X : Cx} {c : LC} {e : Expr} {es : List Expr} {f : FE} {pos : Pos}
def sAsgL (is : List Nat) (f : FE) : FS := fun Γ => (f Γ).fl Γ fun r => match r with
  | .sh d => (match d.seq? with
    | some ds => (match setN is ds Γ with | some Γ' => .nx Γ' | none => .bad)
    | none => .bad)
  | _ => .bad
theorem rs_asgL (cy : Cy X c) {k : Nat} {is : List Nat} {tp : Pos} (h : PGs X es (gNames is)) (ha : PE X e (tE c f)) (hn : (assignEach es X.env).length = is.length := by rfl) (hst : (assignEach es X.env).findIdx? (·.1) = none := by rfl) (hs : swapsWithSole [.Tuple es k tp] e pos.line X.env = pure false := by rfl)
    (hw : swappedStores [.Tuple es k tp] e X.env = pure none := by rfl) (h1 : (assignEach [.Tuple es k tp] X.env).map (·.2) = [assign (.Tuple es k tp) X.env] := by rfl) : PS X (.Assign [.Tuple es k tp] e pos) (tS c (sAsgL is f)) := by
  refine PS.weak (ps_asg ha (pg_lst cy.calm h hn hst) hs hw h1) ?_
  rintro D σ H ⟨G, Γ, he, q⟩
  refine sE he q fun r v G1 H1 _ g1 v1 fr he1 q1 => ?_
  cases r with
  | fr d => exact q1.elim
  | bo d => exact q1.elim
  | sh d =>
    dsimp only at q1
    cases ed : d.seq? with
    | none => rw [ed] at q1; exact q1.elim
    | some ds =>
      rw [ed] at q1
      dsimp only at q1
      cases e' : setN is ds Γ with
      | none => rw [e'] at q1; exact q1.elim
      | some Γ' =>
        rw [e'] at q1
        obtain ⟨a, xs, e1, e2, e3⟩ := RV.sql (r := .sh d) he1.gh v1 ed
        exact ⟨a, xs, e1, by rw [cy.K]; exact e2, by rw [e3.length, setN_length e'], gNames_ok he1 e3 e' fun σ' h2 _ => q1 σ' G1 H1 h2 (Same.refl _)⟩
end
section
variable {m : Nat} {L : Lk} {α ω : Type} {ea : α → D} {f : FE} {P : ω → Fl → Prop} {w : FS} {i j : Nat}
def twoT {β : Type} (xs : List α) (K : α → α → Re β) : Re β := match xs with
  | [a, b] => K a b
  | _ => .bad
theorem bg_asgL2 {x : Re (List α)} {K : α → α → Re ω} (hi : i < m) (hj : j < m) (hx : ER m L .sh (eL ea) x f) (h : ∀ a b, BG m ([(j, .sh (ea b)), (i, .sh (ea a))] ++ L) P (K a b) w) : BG m L P (x.bind fun xs => twoT xs K) (sSeq (sAsgL [i, j] f) w) :=
  bg_step (F := fun r Γ => match r with | .sh d => (match d.seq? with | some ds => (match setN [i, j] ds Γ with | some Γ' => .nx Γ' | none => .bad) | none => .bad) | _ => .bad) hx (fun Γ => rfl) fun xs Γ hΓ => by
    match xs with
    | [] => exact True.intro
    | [_] => exact True.intro
    | _ :: _ :: _ :: _ => exact True.intro
    | [a, b] => exact h a b _ ((hΓ.set hi _).set hj _)
end
end Ly
end

section
set_option maxRecDepth 100000
set_option maxHeartbeats 2000000
namespace Tri
open PySem PySem.Spec L2
open PyProof.Rows hiding St
open AutoSeq1 (wpAny_loadPart')
section
variable {prog : Program} {w : World} {A : Around} {E : Value → Shared → Prop} {s : Shared} {r : Addr} {a b c : Int} {t u v : Tok}
theorem long_extend {R : Result → Shared → Prop} (calm : A.handled = none) (hr : IsRange s.heap r a b c t u v) (big : Builtin.Range.small a b c = false) (none0 : Builtin.Range.rangeSize a b c = (0 : Nat)) (D : Addr) (back : Value) (c0 : Nat)
    (at0 : s.heap.get? D = some { cls := .type "list", data := .seq #[] c0 })
    (done : ∀ h' tk acc c1, (∀ x o, x ≠ D → s.heap.get? x = some o → h'.get? x = some o) → h'.get? D = some { cls := .type "list", dict := none, data := .seq acc c1, slots := #[] } → ItemsOf (fun i v => ∃ t, v = .int (a + i * c) t) acc 0 → R (.ok (.ret back)) { s with heap := h', toks := tk }) :
    wpAny (model prog w) A.in1 (Builtin.List.listExtendWith (.ref D) (.ref r) back) (fun fin s1 => match fin with | .done f => R (.ok f) s1 | .again k => k.quiet = true ∧ codeAny (model prog w) A k R s1) (fun e s1 => R (.error e) s1) s := by
  have ne : D ≠ r := fun e => by rw [e, hr] at at0; simp at at0
  have below : D < s.heap.objs.size := Heap.lt_size at0
  have neI : D ≠ s.heap.objs.size := Nat.ne_of_lt below
  have walk := (Walks.longrange (prog := prog) (w := w) (A := A.in1) calm s.heap.objs.size a c 0).toS
  have loop : ∀ (h : Heap) (c1 tk : Nat), IsLongIter h s.heap.objs.size (a + ((0 : Nat) : Int) * c) (((0 : Nat) : Int) - ((0 : Nat) : Int)) c → (∀ x o, x ≠ D → s.heap.get? x = some o → h.get? x = some o) → h.get? D = some { cls := .type "list", data := .seq #[] c1 } →
      codeAny (model prog w) A (.builtin "list.extend.loop" ⟨[.ref D, .ref s.heap.objs.size, back], []⟩) R { s with heap := h, toks := tk } := by
    intro h c1 tk hit kept at1
    refine codeAny_extend_loopS walk (by rw [sizeLine_eq]; omega) D (fun m => neI (List.mem_singleton.mp m)) back 0 0 _ #[] c1 rfl (Nat.zero_le _) hit at1 (ItemsOf.nil _) ?_
    intro s1 acc c2 moved at2 its
    rw [Moved.eq_with moved]
    refine done s1.heap s1.toks acc c2 (fun x o hx e => moved.heap x o (fun m => ?_) (kept x o hx e)) at2 its
    rcases List.mem_cons.mp m with z | z
    · exact hx z
    · rw [List.mem_singleton.mp z] at e
      exact absurd (Heap.lt_size e) (Nat.lt_irrefl _)
  unfold Builtin.List.listExtendWith
  refine wpAny_bind (wpAny_typeOf (T := "range") ⟨_, hr, rfl⟩ ?_)
  have f1 : Builtin.List.listSameRef (.ref D) (.ref r) = false := by simp [Builtin.List.listSameRef, ne]
  have f2 : (Value.type "range" == Value.type "list") = false ∧ (Value.type "range" == Value.type "tuple") = false := ⟨by decide, by decide⟩
  simp only [f1, f2.1, f2.2, Bool.or_false, Bool.false_eq_true, if_false]
  refine wpAny_bind (wpAny_pyIter_longrange hr big ?_)
  refine wpAny_bind (wpAny_holding (wpAny_hint_range (n := 0) (Heap.get?_push_of_some _ hr) none0 (by omega) ?_))
  have hit : IsLongIter (s.heap.push { cls := .type "longrange_iterator", data := .fields #[rawInt a, rawInt (Builtin.Range.rangeSize a b c), rawInt c] }) s.heap.objs.size (a + ((0 : Nat) : Int) * c) (((0 : Nat) : Int) - ((0 : Nat) : Int)) c := by
    rw [none0]
    simpa using Heap.get?_push_size s.heap (o := { cls := .type "longrange_iterator", data := .fields #[rawInt a, rawInt ((0 : Nat) : Int), rawInt c] }) rfl
  have at1 := Heap.get?_push_of_some { cls := .type "longrange_iterator", data := .fields #[rawInt a, rawInt (Builtin.Range.rangeSize a b c), rawInt c] } at0
  refine wpAny_ite_split (fun z => absurd z (by decide)) fun _ => wpAny_pure ⟨plainId_quiet F.plain_extend_loop _, loop _ c0 _ hit (fun x o _ e => Heap.get?_push_of_some _ e) at1⟩
theorem long_init {R : Result → Shared → Prop} (calm : A.handled = none) (hr : IsRange s.heap r a b c t u v) (big : Builtin.Range.small a b c = false) (none0 : Builtin.Range.rangeSize a b c = (0 : Nat)) (D : Addr) (at0 : s.heap.get? D = some { cls := .type "list", data := .seq #[] })
    (done : ∀ h' tk acc c1, (∀ x o, x ≠ D → s.heap.get? x = some o → h'.get? x = some o) → h'.get? D = some { cls := .type "list", dict := none, data := .seq acc c1, slots := #[] } → ItemsOf (fun i v => ∃ t, v = .int (a + i * c) t) acc 0 → R (.ok (.ret .none)) { s with heap := h', toks := tk }) :
    wpAny (model prog w) A.in1 (Builtin.«list.__init__» ⟨[.ref D, .ref r], []⟩) (fun fin s1 => match fin with | .done f => R (.ok f) s1 | .again k => k.quiet = true ∧ codeAny (model prog w) A k R s1) (fun e s1 => R (.error e) s1) s := by
  have ne : D ≠ r := fun e => by rw [e, hr] at at0; simp at at0
  show wpAny _ _ (Builtin.List.listItems (.ref D) >>= fun old => Builtin.List.listUpdate (.ref D) (fun _ => #[]) >>= fun _ => letGo old.toList.reverse >>= fun _ => Builtin.List.listExtendWith (.ref D) (.ref r) .none) _ _ s
  refine wpAny_bind ?_
  unfold Builtin.List.listItems
  refine wpAny_bind (wpAny_seqItems at0 rfl (wpAny_pure ?_))
  show wpAny _ _ (updateSeq D (fun _ => #[]) >>= fun _ => letGo (#[] : Array Value).toList.reverse >>= fun _ => Builtin.List.listExtendWith (.ref D) (.ref r) .none) _ _ s
  refine wpAny_bind (wpAny_updateSeq at0 rfl (wpAny_bind (wpAny_letGo ?_)))
  have at1 := Heap.get?_update_self (Obj.mapSeq (fun _ => (#[] : Array Value))) at0 rfl
  have other : ∀ x o, x ≠ D → s.heap.get? x = some o → (s.heap.update D (Obj.mapSeq (fun _ => (#[] : Array Value)))).get? x = some o := fun x o hx e => by rw [Heap.get?_update_other _ _ (Ne.symm hx)]; exact e
  exact long_extend calm (other r _ (Ne.symm ne) hr) big none0 D .none _ at1 fun h1 tk acc c1 kept at2 its => done h1 tk acc c1 (fun x o hx e => kept x o hx (other x o hx e)) at2 its
theorem call_list_long {Q : Value → Shared → Prop} (calm : A.handled = none) (hr : IsRange s.heap r a b c t u v) (big : Builtin.Range.small a b c = false) (none0 : Builtin.Range.rangeSize a b c = (0 : Nat))
    (done : ∀ h' tk acc c1, (∀ x o, s.heap.get? x = some o → h'.get? x = some o) → h'.get? s.heap.objs.size = some { cls := .type "list", dict := none, data := .seq acc c1, slots := #[] } → ItemsOf (fun i v => ∃ t, v = .int (a + i * c) t) acc 0 → Q (.ref s.heap.objs.size) { s with heap := h', toks := tk }) :
    wpAny (model prog w) A (call (.type "list") [.ref r]) Q E s := by
  refine callType_codes (Q₁ := fun o s1 => o = .ref s.heap.objs.size ∧ s1 = { s with heap := s.heap.push { cls := .type "list", data := .seq #[] } }) F.called_list (F.typeCall_list_1 _) F.entry_list_init (code_list_new _ ⟨rfl, rfl⟩) ?_
  rintro o s1 ⟨rfl, rfl⟩
  have at0 : (s.heap.push { cls := .type "list", data := .seq #[] }).get? s.heap.objs.size = some { cls := .type "list", data := .seq #[] } := Heap.get?_push_size _ rfl
  refine ⟨⟨_, at0, rfl⟩, F.args_list_init_2 _ _, long_init (A := A.in1) calm (Heap.get?_push_of_some _ hr) big none0 _ at0 ?_⟩
  intro h1 tk acc c1 kept at1 its
  exact ⟨rfl, done h1 tk acc c1 (fun x o e => kept x o (Nat.ne_of_lt (Heap.lt_size e)) (Heap.get?_push_of_some _ e)) at1 its⟩
end
section
variable {X : Cx} {e : Expr} {te : St → Hp → (Int → Int → Hp → Prop) → Prop}
def tLstX (te : St → Hp → (Int → Int → Hp → Prop) → Prop) : TE := fun σ H Q => te σ H fun a b H1 => (RgOk a b ∨ b ≤ a) ∧ ∀ q, H1 q = none → Q (.ref q) (upd H1 q (.lst (rgV a b)))
theorem pe_listX {p pos : Pos} (calm : X.calm = true) (hg : Gl X "list") (hm : X.mg "list" = none) (he : PRg X e te) (na : starEach [e] X.env = (false, eval e X.env) :: starEach [] X.env := by rfl) : PE X (.Call (.Name "list" p) [e] [] pos) (tLstX te) := by
  refine ⟨fun pins s σ H Q I h => Call_ (ld_blt I hg hm boot_list (PyProof.Rows.callWith_type1 (args_cons (thn (he pins s σ H _ I h) ?_) na) na))⟩
  rintro x s1 ⟨r, a, b, t, u, v, H1, rfl, hr, I1, ok, q⟩
  refine args_nil ?_
  have fin : ∀ (n : Nat) (h' : Heap) (tk : Nat) (acc : Array Value) (c' : Nat), n = (b - a).toNat → n ≤ 16777216 → (∀ x o, s1.heap.get? x = some o → h'.get? x = some o) → h'.get? s1.heap.objs.size = some { cls := .type "list", dict := none, data := .seq acc c', slots := #[] } →
      ItemsOf (fun i v => ∃ t, v = .int (a + i * 1) t) acc n → ∃ w H', Inv X pins σ H' { s1 with heap := h', toks := tk } ∧ RelV w (.ref s1.heap.objs.size) ∧ Q w H' := by
    rintro n h' tk acc c' rfl hn kept at1 its
    refine ⟨.ref s1.heap.objs.size, _, I1.laid kept (Nat.le_refl _) (show ObjOk X.prog X.w _ _ _ (.lst (rgV a b)) from ⟨?_, acc.toList, c', vals_rg its, ?_⟩), rfl, q _ (I1.hok.fresh (Nat.le_refl _))⟩
    · rw [rgV_length, sizeLine_eq]; omega
    · rw [Array.toArray_toList]; exact at1
  rcases ok with ⟨b1, b2, b3, b4, b5⟩ | le
  · exact call_list_range (n := (b - a).toNat) (I1.ok.hd calm) hr (small_one b1 b2 b3 b4) (rangeSize_nat a b) b5 fun h' tk acc c' kept at1 its => fin _ h' tk acc c' rfl (by omega) kept at1 its
  · have n0 : (b - a).toNat = 0 := by omega
    have rs : Builtin.Range.rangeSize a b 1 = ((0 : Nat) : Int) := by rw [rangeSize_nat, n0]
    cases sm : Builtin.Range.small a b 1 with
    | true => exact call_list_range (n := 0) (I1.ok.hd calm) hr sm rs (by omega) fun h' tk acc c' kept at1 its => fin 0 h' tk acc c' n0.symm (by omega) kept at1 its
    | false => exact call_list_long (I1.ok.hd calm) hr sm rs fun h' tk acc c' kept at1 its => fin 0 h' tk acc c' n0.symm (by omega) kept at1 its
end
end Tri
namespace Ly
open PySem PySem.Spec L2
open PyProof.Rows hiding St
section
variable [Tb] {X : Cx} {c : LC} {a : Expr} {f : FE}
def kLrX (b : Int) : Re Rv := if rgOk 0 b = true then .ok (.fr (.l (rgD 0 b))) else if b ≤ 0 then .ok (.fr (.l [])) else .bad
def kLrX1 : Rv → Re Rv := fun r => match r.d with | .i j => kLrX j | _ => .bad
theorem re_listRX (cy : Cy X c) {p p' : Pos} {ps : Pos} (hl : Gl X "list") (hml : X.mg "list" = none) (hg : Gl X "range") (hm : X.mg "range" = none) (ha : PE X a (tE c f)) (hs : starEach [a] X.env = [(false, eval a X.env)] := by rfl)
    (hs' : starEach [.Call (.Name "range" p') [a] [] ps] X.env = [(false, eval (.Call (.Name "range" p') [a] [] ps) X.env)] := by rfl) :
    PE X (.Call (.Name "list" p) [.Call (.Name "range" p') [a] [] ps] [] pos) (tE c (e1 kLrX1 f)) := by
  refine PE.weak (Tri.pe_listX cy.calm hl hml (prg_1 hg hm ha hs) hs') ?_
  rintro σ H Q ⟨G, Γ, he, q⟩
  refine eE he q fun rx x G1 H1 _ g1 v1 fr1 he1 q1 => ?_
  unfold kLrX1 at q1
  split at q1
  · rename_i j e
    unfold kLrX at q1
    split at q1
    · rename_i hr
      exact ⟨j, v1.int e, .inl (rgOk_ok hr), post_lst he1.bh he1.gh q1 (.rg _ _)⟩
    · split at q1
      · rename_i le
        refine ⟨j, v1.int e, .inr le, ?_⟩
        have : rgV 0 j = [] := by rw [← List.length_eq_zero_iff, rgV_length]; omega
        rw [this]
        exact post_lst he1.bh he1.gh q1 .nil
      · exact q1.elim
  · exact q1.elim
end
section
variable {k1 : Kd}
def lrX (b : Int) : Re (List Int) := if rgOk 0 b = true then .ok (rangeI 0 b) else if b ≤ 0 then .ok [] else .bad
theorem o_lrX {b : Int} : RE1 .fr (eL eI) (lrX b) (kLrX1 (k1.v (eI b))) := by
  have : kLrX1 (k1.v (eI b)) = kLrX b := by cases k1 <;> rfl
  rw [this]
  unfold lrX kLrX
  split
  · show _ = _
    rw [rgD_map]
    rfl
  · split
    · rfl
    · trivial
theorem lrX_small {b : Int} (h1 : b ≤ 16777216) : lrX b = .ok (rangeI 0 b) := by
  unfold lrX
  split
  · rfl
  · rename_i h
    have hb : b ≤ 0 := by
      by_cases z : b ≤ 0
      · exact z
      · refine absurd ?_ h
        unfold rgOk
        rw [decide_eq_true_eq]
        omega
    have : rangeI 0 b = [] := by rw [← List.length_eq_zero_iff, rangeI_len]; omega
    rw [if_pos hb, this]
end
end Ly
end

section
set_option maxRecDepth 100000
set_option maxHeartbeats 4000000
namespace C
open PySem PySem.Spec L2 Ly
open PyProof.Rows hiding St
def nlD : List Str := ["BadSpots", "BadWay", "BadCall", "BadBar", "BadFigure", "BadNumber", "TooMany", "Same", "BadName", "Known", "BadKind", "Few", "Full", "Taken", "NoFigure", "NoSet", "NoCouple", "WrongSize", "Fixed", "Last", "NoEntry", "NotDanced", "NothingLeft"]
def xL : List Str := ["BadSpots", "BadWay"]
def b_look_spots : FS :=
(sIf (tOrF (tV (e2 kLt (eV 0) (eC (.i 2)))) (tV (e2 kGt (eV 0) (eC (.i 6)))))
(sRaise "BadSpots")
sNil)
def F_look_spots : List D → Re Rv := runF 1 1 b_look_spots

def b_still : FS :=
(sSeq (sEx (eCall 1 F_look_spots (aCons (eV 0) aNil)))
(sRet (e1 kLr1 (e2 kMul (eC (.i 2)) (eV 0)))))
def F_still : List D → Re Rv := runF 1 1 b_still

def b_look_way : FS :=
(sIf (tV (e2 kNe (e1 kSort (eV 1)) (e1 kLr1 (e2 kMul (eC (.i 2)) (eV 0)))))
(sRaise "BadWay")
sNil)
def F_look_way : List D → Re Rv := runF 2 2 b_look_way

def b_then : FS :=
(sSeq (sEx (eCall 1 F_look_spots (aCons (eV 0) aNil)))
(sSeq (sEx (eCall 2 F_look_way (aCons (eV 0) (aCons (eV 1) aNil))))
(sSeq (sEx (eCall 2 F_look_way (aCons (eV 0) (aCons (eV 2) aNil))))
(sRet (eLc (itA (eV 1)) (.one 3) tYesF (e2 kIx (eV 2) (eV 3)) [3])))))
def F_then : List D → Re Rv := runF 3 4 b_then

def L1_undone : FS :=
(sAsgT (gSubL 2 (eV 4)) (eV 3))
def b_undone : FS :=
(sSeq (sEx (eCall 1 F_look_spots (aCons (eV 0) aNil)))
(sSeq (sEx (eCall 2 F_look_way (aCons (eV 0) (aCons (eV 1) aNil))))
(sSeq (sSet 2 (e2 kMul (eLst (aCons (eC (.i 0)) aNil)) (e1 kLen (eV 1))))
(sSeq (sFor (itE (eV 1)) (.tup [3, 4]) L1_undone)
(sRet (eV 2))))))
def F_undone : List D → Re Rv := runF 2 5 b_undone

def L1__law_numbers : FS :=
(sIf (tV (e2 kGt (eV 5) (eC (.i 0))))
(sSeq (sApp 2 (e2 kMod (eV 5) (eC (.i 1013))))
(sSet 5 (e2 kDiv (eV 5) (eC (.i 1013)))))
sNil)
def L2__law_numbers : FS :=
(sSeq (sSet 3 (e2 kMod (e2 kAdd (e2 kAdd (e2 kMul (eV 3) (eC (.i 40692))) (e2 kMod (eV 4) (eC (.i 999961)))) (eC (.i 31))) (eC (.i 2147483399))))
(sSeq (sSet 5 (e2 kSub (eV 4) (e2 kPow (eC (.i 10)) (eC (.i 18)))))
(sSeq (sIf (tV (e2 kLt (eV 5) (eC (.i 0))))
(sApp 2 (e2 kMod (eV 4) (eC (.i 9967))))
sNil)
(sFor (itR1 (eC (.i 60))) (.one 6) L1__law_numbers))))
def L3__law_numbers : FS :=
(sSeq (sSet 3 (e2 kMod (e2 kAdd (e2 kAdd (e2 kAdd (e2 kMul (eV 3) (eV 3)) (e2 kMul (eC (.i 48271)) (eV 3))) (e2 kMul (eC (.i 17)) (e1 kLen (eV 2)))) (eC (.i 5))) (eC (.i 2147483629))))
(sApp 2 (e2 kMod (e2 kDiv (eV 3) (eC (.i 1019))) (eC (.i 9967)))))
def T3__law_numbers : FT :=
(tV (e2 kLt (e1 kLen (eV 2)) (eV 1)))
def b__law_numbers : FS :=
(sSeq (sSet 2 (eLst aNil))
(sSeq (sSet 3 (eC (.i 71)))
(sSeq (sFor (itA (eSl (eV 0) oNo (oIs (eC (.i 63))))) (.one 4) L2__law_numbers)
(sSeq (sWh 1000 T3__law_numbers L3__law_numbers)
(sRet (eSl (eV 2) oNo (oIs (eV 1))))))))
def F__law_numbers : List D → Re Rv := runF 2 7 b__law_numbers

def b__law_same (Fself : List D → Re Rv) : FS :=
(sSeq (sIf (tV (e2 (kIs false) (eV 1) (eC .n)))
(sRet (e2 (kIs false) (eV 0) (eC .n)))
sNil)
(sSeq (sIf (tV (e1 (kIsi2 "list" "tuple") (eV 1)))
(sSeq (sIf (tOrF (tV (e2 kNe (e1 (kIsi "list") (eV 0)) (e1 (kIsi "list") (eV 1)))) (tV (e2 kNe (e1 (kIsi "tuple") (eV 0)) (e1 (kIsi "tuple") (eV 1)))))
(sRet (eC (.b false)))
sNil)
(sRet (eAnd (e2 kEq (e1 kLen (eV 0)) (e1 kLen (eV 1))) (e1 kAll (eLc (itR1 (e1 kLen (eV 1))) (.one 2) tYesF (eCall 2 Fself (aCons (e2 kIx (eV 0) (eV 2)) (aCons (e2 kIx (eV 1) (eV 2)) aNil))) [2])))))
sNil)
(sSeq (sIf (tOrF (tV (e2 kNe (e1 (kIsi "bool") (eV 0)) (e1 (kIsi "bool") (eV 1)))) (tV (e2 kNe (e1 (kIsi "str") (eV 0)) (e1 (kIsi "str") (eV 1)))))
(sRet (eC (.b false)))
sNil)
(sRet (eAnd (e2 kEq (e1 (kIsi "int") (eV 0)) (e1 (kIsi "int") (eV 1))) (e2 kEq (eV 0) (eV 1)))))))
def G__law_same : Nat → List D → Re Rv
  | 0 => fun _ => .bad
  | k + 1 => runF 2 3 (b__law_same (G__law_same k))
def F__law_same : List D → Re Rv := G__law_same 12

def b__law_spots : FS :=
(sRet (e2 kIx (eLst (aCons (eC (.i 2)) (aCons (eC (.i 3)) (aCons (eC (.i 4)) (aCons (eC (.i 5)) (aCons (eC (.i 6)) (aCons (eC (.i 2)) (aCons (eC (.i 3)) aNil)))))))) (e2 kMod (eV 0) (eC (.i 7)))))
def F__law_spots : List D → Re Rv := runF 1 1 b__law_spots

def b__law_any_spots : FS :=
(sSeq (sIf (tV (e2 kLt (e2 kMod (eV 0) (eC (.i 8))) (eC (.i 6))))
(sRet (eCall 1 F__law_spots (aCons (e2 kDiv (eV 0) (eC (.i 8))) aNil)))
sNil)
(sRet (e2 kIx (eLst (aCons (eC (.i 0)) (aCons (eC (.i 1)) (aCons (eC (.i 7)) (aCons (eC (.i 8)) (aCons (e1 kNeg (eC (.i 2))) (aCons (e2 kPow (eC (.i 10)) (eC (.i 40))) (aCons (e1 kNeg (e2 kPow (eC (.i 10)) (eC (.i 40)))) aNil)))))))) (e2 kMod (e2 kDiv (eV 0) (eC (.i 8))) (eC (.i 7))))))
def F__law_any_spots : List D → Re Rv := runF 1 1 b__law_any_spots

def L1__law_mixed : FS :=
(sIns 2 (e2 kMod (e2 kIx (eV 0) (eV 3)) (e2 kAdd (eV 3) (eC (.i 1)))) (eV 3))
def b__law_mixed : FS :=
(sSeq (sSet 2 (eLst aNil))
(sSeq (sFor (itR1 (eV 1)) (.one 3) L1__law_mixed)
(sRet (eV 2))))
def F__law_mixed : List D → Re Rv := runF 2 4 b__law_mixed

def b__law_bent : FS :=
(sSeq (sSet 2 (e2 kMod (e2 kIx (eV 1) (eC (.i 0))) (e1 kLen (eV 0))))
(sSeq (sSet 3 (e2 kIx (eLst (aCons (e1 kNeg (eC (.i 1))) (aCons (e1 kLen (eV 0)) (aCons (e2 kIx (eV 0) (eC (.i 0))) (aCons (e2 kPow (eC (.i 10)) (eC (.i 40))) (aCons (e2 kIx (eV 0) (e1 kNeg (eC (.i 1)))) aNil)))))) (e2 kMod (e2 kIx (eV 1) (eC (.i 1))) (eC (.i 5)))))
(sFrz 3 (sRet (e2 kIx (eLst (aCons (eV 0) (aCons (eV 0) (aCons (e2 kAdd (e2 kAdd (eSl (eV 0) oNo (oIs (eV 2))) (eLst (aCons (eV 3) aNil))) (eSl (eV 0) (oIs (e2 kAdd (eV 2) (eC (.i 1)))) oNo)) (aCons (e2 kAdd (eSl (eV 0) oNo (oIs (eV 2))) (eSl (eV 0) (oIs (e2 kAdd (eV 2) (eC (.i 1)))) oNo)) (aCons (e2 kAdd (eV 0) (eLst (aCons (eV 3) aNil))) (aCons (e1 kRev (eV 0)) aNil))))))) (e2 kMod (e2 kIx (eV 1) (eC (.i 2))) (eC (.i 6))))))))
def F__law_bent : List D → Re Rv := runF 2 4 b__law_bent

def L1_law : FS :=
(sSeq (sSet 3 (eSl (eV 1) (oIs (e2 kMul (eC (.i 40)) (eV 2))) (oIs (e2 kAdd (e2 kMul (eC (.i 40)) (eV 2)) (eC (.i 40))))))
(sSeq (sSet 4 (eCall 1 F__law_any_spots (aCons (e2 kIx (eV 3) (eC (.i 0))) aNil)))
(sSeq (sSet 5 (e2 kMul (eC (.i 2)) (eCall 1 F__law_spots (aCons (e2 kDiv (e2 kIx (eV 3) (eC (.i 0))) (eC (.i 8))) aNil))))
(sFrz 5 (sSeq (sSet 6 (eCall 2 F__law_bent (aCons (eCall 2 F__law_mixed (aCons (eSl (eV 3) (oIs (eC (.i 1))) oNo) (aCons (eV 5) aNil))) (aCons (eSl (eV 3) (oIs (eC (.i 14))) oNo) aNil))))
(sFrz 5 (sSeq (sSet 7 (eCall 2 F__law_bent (aCons (eCall 2 F__law_mixed (aCons (eSl (eV 3) (oIs (eC (.i 18))) oNo) (aCons (eV 5) aNil))) (aCons (eSl (eV 3) (oIs (eC (.i 31))) oNo) aNil))))
(sSeq (sSet 8 (eLst (aCons (e1 kList (eV 6)) (aCons (e1 kList (eV 7)) aNil))))
(sFrz 8 (sSeq (sSet 9 (eLc (itA (eV 8)) (.one 10) tYesF (e2 kNe (e1 kSort (eV 10)) (e1 kLrX1 (e2 kMul (eC (.i 2)) (e2 kMin2 (eV 4) (eC (.i 6)))))) [10]))
(sSeq (sSet 11 (e2 kMul (eLst (aCons (eTup (aCons (eC .n) (aCons (eC (.s "no BadSpots")) aNil))) aNil)) (eC (.i 3))))
(sSeq (sIf (tV (eCh kLe kLe (eC (.i 2)) (eV 4) (eC (.i 6))))
(sSeq (sSet 11 (eLst (aCons (eTup (aCons (e1 kLr1 (e2 kMul (eC (.i 2)) (eV 4))) (aCons (eC (.s "")) aNil))) (aCons (eTup (aCons (eC .n) (aCons (eC (.s "no BadWay")) aNil))) (aCons (eTup (aCons (eC .n) (aCons (eC (.s "no BadWay")) aNil))) aNil)))))
(sSeq (sIf (tNotF (tV (e2 kIx (eV 9) (eC (.i 0)))))
(sAsgT (gSubL 11 (eC (.i 1))) (eTup (aCons (eLc (itR1 (e2 kMul (eC (.i 2)) (eV 4))) (.one 12) tYesF (eIdx (eV 6) (eV 12)) [12]) (aCons (eC (.s "")) aNil))))
sNil)
(sIf (tV (e2 (kIn true) (eC (.b true)) (eV 9)))
(sFrz 6 (sAsgT (gSubL 11 (eC (.i 2))) (eTup (aCons (eLc (itA (eV 6)) (.one 12) tYesF (e2 kIx (eV 7) (eV 12)) [12]) (aCons (eC (.s "")) aNil)))))
sNil)))
sNil)
(sFrz 4 (sSeq (sSet 13 (eLst (aCons (eTried xL (eCall 1 F_still (aCons (eV 4) aNil))) aNil)))
(sFrz 8 (sFrz 4 (sSeq (sApp 13 (eTried xL (eCall 2 F_undone (aCons (eV 4) (aCons (e2 kIx (eV 8) (eC (.i 0))) aNil)))))
(sFrz 8 (sFrz 4 (sSeq (sApp 13 (eTried xL (eCall 3 F_then (aCons (eV 4) (aCons (e2 kIx (eV 8) (eC (.i 0))) (aCons (e2 kIx (eV 8) (eC (.i 1))) aNil))))))
(sFrz 7 (sFrz 6 (sIf (tOrF (tNotF (tV (eFz 13 (eFz 11 (eCall 2 F__law_same (aCons (eV 13) (aCons (eV 11) aNil))))))) (tV (e2 kNe (eV 8) (eLst (aCons (eV 6) (aCons (eV 7) aNil))))))
(sRet (eC (.b false)))
sNil)))))))))))))))))))))))
def b_law : FS :=
(sSeq (sSet 1 (eCall 2 F__law_numbers (aCons (eV 0) (aCons (eC (.i 120)) aNil))))
(sSeq (sFor (itR1 (eC (.i 3))) (.one 2) L1_law)
(sRet (eC (.b true)))))
def F_law : List D → Re Rv := runF 1 14 b_law

open Tri
def top (i : Nat) : Stmt := PySem.Challenge.pw_longways_k02_ways_done_and_undone.main.body.getD i (.Pass ⟨0, 0, 0, 0⟩)
structure Tx [Tb] (w : World) (K : PySem.W.Frag) (mg : Str → Option Value) (base : Heap) : Prop where
  tr : TrFacts K mg nlD xL
  b_all : mg "all" = none
  b_bool : mg "bool" = none
  b_enumerate : mg "enumerate" = none
  b_int : mg "int" = none
  b_isinstance : mg "isinstance" = none
  b_len : mg "len" = none
  b_list : mg "list" = none
  b_min : mg "min" = none
  b_range : mg "range" = none
  b_sorted : mg "sorted" = none
  b_str : mg "str" = none
  b_tuple : mg "tuple" = none
  b_zip : mg "zip" = none
  c_LEAST_SPOTS : ∃ t, mg "LEAST_SPOTS" = some (.int 2 t)
  c_MOST_SPOTS : ∃ t, mg "MOST_SPOTS" = some (.int 6 t)
  x_BadSpots : XOk K mg "BadSpots"
  x_BadWay : XOk K mg "BadWay"
  f_look_spots : ∃ (f : Addr) (fd : FuncData), mg "look_spots" = some (.ref f) ∧ Fun K "look_spots" "look_spots" (top 31) f fd ∧ Binds K fd ["spots"] []
  f_still : ∃ (f : Addr) (fd : FuncData), mg "still" = some (.ref f) ∧ Fun K "still" "still" (top 32) f fd ∧ Binds K fd ["spots"] []
  f_look_way : ∃ (f : Addr) (fd : FuncData), mg "look_way" = some (.ref f) ∧ Fun K "look_way" "look_way" (top 33) f fd ∧ Binds K fd ["spots", "way"] []
  f_then : ∃ (f : Addr) (fd : FuncData), mg "then" = some (.ref f) ∧ Fun K "then" "then" (top 34) f fd ∧ Binds K fd ["spots", "one", "other"] []
  f_undone : ∃ (f : Addr) (fd : FuncData), mg "undone" = some (.ref f) ∧ Fun K "undone" "undone" (top 35) f fd ∧ Binds K fd ["spots", "way"] []
  f__law_numbers : ∃ (f : Addr) (fd : FuncData), mg "_law_numbers" = some (.ref f) ∧ Fun K "_law_numbers" "_law_numbers" (top 37) f fd ∧ Binds K fd ["_law_script", "_law_many"] []
  f__law_same : ∃ (f : Addr) (fd : FuncData), mg "_law_same" = some (.ref f) ∧ Fun K "_law_same" "_law_same" (top 38) f fd ∧ Binds K fd ["_law_found", "_law_due"] []
  f__law_marks : ∃ (f : Addr) (fd : FuncData), mg "_law_marks" = some (.ref f) ∧ Fun K "_law_marks" "_law_marks" (top 39) f fd ∧ Binds K fd ["_law_e"] []
  f__law_marked : ∃ (f : Addr) (fd : FuncData), mg "_law_marked" = some (.ref f) ∧ Fun K "_law_marked" "_law_marked" (top 40) f fd ∧ Binds K fd ["_law_marks_here"] []
  f__law_tried : ∃ (f : Addr) (fd : FuncData), mg "_law_tried" = some (.ref f) ∧ Fun K "_law_tried" "_law_tried" (top 41) f fd ∧ Binds K fd ["_law_ask"] []
  f__law_spots : ∃ (f : Addr) (fd : FuncData), mg "_law_spots" = some (.ref f) ∧ Fun K "_law_spots" "_law_spots" (top 42) f fd ∧ Binds K fd ["_law_d"] []
  f__law_any_spots : ∃ (f : Addr) (fd : FuncData), mg "_law_any_spots" = some (.ref f) ∧ Fun K "_law_any_spots" "_law_any_spots" (top 43) f fd ∧ Binds K fd ["_law_number"] []
  f__law_mixed : ∃ (f : Addr) (fd : FuncData), mg "_law_mixed" = some (.ref f) ∧ Fun K "_law_mixed" "_law_mixed" (top 44) f fd ∧ Binds K fd ["_law_d", "_law_many"] []
  f__law_bent : ∃ (f : Addr) (fd : FuncData), mg "_law_bent" = some (.ref f) ∧ Fun K "_law_bent" "_law_bent" (top 45) f fd ∧ Binds K fd ["_law_way", "_law_d"] []
section
variable [Tb] {P : Program} {w : World} {K : PySem.W.Frag} {mg : Str → Option Value} {base : Heap}
abbrev s_look_spots : Stmt := top 31
abbrev N_look_spots : List Str := ["spots"]
theorem sc_look_spots : FnScope N_look_spots ["spots"] (defScope s_look_spots) := ⟨rfl, rfl, rfl, by decide +kernel, rfl, by decide +kernel, by decide +kernel⟩
theorem fn_look_spots {f : Addr} {fd : FuncData} (T : Tx w K mg base) (hF : Fun K "look_spots" "look_spots" s_look_spots f fd) : FnOk P w K mg base (L2N.CX P w) 1 f fd ["spots"] (spF K mg 1 F_look_spots) :=
  def_fn (k := 0) hF sc_look_spots rfl rfl (fun cdv A outer s H G E hr cy pass =>
(rs_one (rs_if (PW.pt (rw_or (rt_cmp cd_lt (nv 0) (re_gi T.c_LEAST_SPOTS) (nomark _)) (rw_or1 (rt_cmp cd_gt (nv 0) (re_gi T.c_MOST_SPOTS) (nomark _)))))
(rs_one (rs_raise cy T.x_BadSpots rfl))
rs_nil)))
theorem d_look_spots (T : Tx w K mg base) : DefOk P w K mg base 1 "look_spots" 1 F_look_spots := by
  obtain ⟨f, fd, h1, h2, h3⟩ := T.f_look_spots
  exact ⟨f, fd, _, h1, h2.kp, h3, fn_look_spots T h2⟩

abbrev s_still : Stmt := top 32
abbrev N_still : List Str := ["spots"]
theorem sc_still : FnScope N_still ["spots"] (defScope s_still) := ⟨rfl, rfl, rfl, by decide +kernel, rfl, by decide +kernel, by decide +kernel⟩
theorem fn_still {f : Addr} {fd : FuncData} (T : Tx w K mg base) (hF : Fun K "still" "still" s_still f fd) : FnOk P w K mg base (L2N.CX P w) 2 f fd ["spots"] (spF K mg 1 F_still) :=
  def_fn (k := 1) hF sc_still rfl rfl (fun cdv A outer s H G E hr cy pass =>
(rs_cons (rs_ex (re_call cy (d_look_spots T) (hr.mono (by decide)) rfl (ra_cons (nv 0) ra_nil)))
(rs_one (rs_ret (re_listR1 cy rfl T.b_list rfl T.b_range (re_mul re_int (nv 0)))))))
theorem d_still (T : Tx w K mg base) : DefOk P w K mg base 2 "still" 1 F_still := by
  obtain ⟨f, fd, h1, h2, h3⟩ := T.f_still
  exact ⟨f, fd, _, h1, h2.kp, h3, fn_still T h2⟩

abbrev s_look_way : Stmt := top 33
abbrev N_look_way : List Str := ["spots", "way"]
theorem sc_look_way : FnScope N_look_way ["spots", "way"] (defScope s_look_way) := ⟨rfl, rfl, rfl, by decide +kernel, rfl, by decide +kernel, by decide +kernel⟩
theorem fn_look_way {f : Addr} {fd : FuncData} (T : Tx w K mg base) (hF : Fun K "look_way" "look_way" s_look_way f fd) : FnOk P w K mg base (L2N.CX P w) 1 f fd ["spots", "way"] (spF K mg 2 F_look_way) :=
  def_fn (k := 0) hF sc_look_way rfl rfl (fun cdv A outer s H G E hr cy pass =>
(rs_one (rs_if (rt_cmp (cd_ne cy) (re_sort cy rfl T.b_sorted (nv 1)) (re_listR1 cy rfl T.b_list rfl T.b_range (re_mul re_int (nv 0))) (nomark _))
(rs_one (rs_raise cy T.x_BadWay rfl))
rs_nil)))
theorem d_look_way (T : Tx w K mg base) : DefOk P w K mg base 1 "look_way" 2 F_look_way := by
  obtain ⟨f, fd, h1, h2, h3⟩ := T.f_look_way
  exact ⟨f, fd, _, h1, h2.kp, h3, fn_look_way T h2⟩

abbrev s_then : Stmt := top 34
abbrev N_then : List Str := ["spots", "one", "other", "place"]
theorem sc_then : FnScope N_then ["spots", "one", "other"] (defScope s_then) := ⟨rfl, rfl, rfl, by decide +kernel, rfl, by decide +kernel, by decide +kernel⟩
theorem fn_then {f : Addr} {fd : FuncData} (T : Tx w K mg base) (hF : Fun K "then" "then" s_then f fd) : FnOk P w K mg base (L2N.CX P w) 2 f fd ["spots", "one", "other"] (spF K mg 3 F_then) :=
  def_fn (k := 1) hF sc_then rfl rfl (fun cdv A outer s H G E hr cy pass =>
(rs_cons (rs_ex (re_call cy (d_look_spots T) (hr.mono (by decide)) rfl (ra_cons (nv 0) ra_nil)))
(rs_cons (rs_ex (re_call cy (d_look_way T) (hr.mono (by decide)) rfl (ra_cons (nv 0) (ra_cons (nv 1) ra_nil))))
(rs_cons (rs_ex (re_call cy (d_look_way T) (hr.mono (by decide)) rfl (ra_cons (nv 0) (ra_cons (nv 2) ra_nil))))
(rs_one (rs_ret (re_lc cy (ri_any cy (nv 1)) (blkOk_by (N := N_then) (sc := defScope s_then) (own := [("place", 3)]) (by decide +kernel)) (by decide) (fun _ _ _ _ _ cy1 => (rg1 cy1 3)) (fun _ _ _ _ _ cy1 => rts_nil) (fun _ _ _ _ _ cy1 => (re_ix cy1 (nv 2) (nv 3))))))))))
theorem d_then (T : Tx w K mg base) : DefOk P w K mg base 2 "then" 3 F_then := by
  obtain ⟨f, fd, h1, h2, h3⟩ := T.f_then
  exact ⟨f, fd, _, h1, h2.kp, h3, fn_then T h2⟩

abbrev s_undone : Stmt := top 35
abbrev N_undone : List Str := ["spots", "way", "found", "place", "goal"]
theorem sc_undone : FnScope N_undone ["spots", "way"] (defScope s_undone) := ⟨rfl, rfl, rfl, by decide +kernel, rfl, by decide +kernel, by decide +kernel⟩
theorem fn_undone {f : Addr} {fd : FuncData} (T : Tx w K mg base) (hF : Fun K "undone" "undone" s_undone f fd) : FnOk P w K mg base (L2N.CX P w) 2 f fd ["spots", "way"] (spF K mg 2 F_undone) :=
  def_fn (k := 1) hF sc_undone rfl rfl (fun cdv A outer s H G E hr cy pass =>
(rs_cons (rs_ex (re_call cy (d_look_spots T) (hr.mono (by decide)) rfl (ra_cons (nv 0) ra_nil)))
(rs_cons (rs_ex (re_call cy (d_look_way T) (hr.mono (by decide)) rfl (ra_cons (nv 0) (ra_cons (nv 1) ra_nil))))
(rs_cons (rs_set (i := 2) cy rfl (Or.inl rfl) (re_mul (re_lst (ra_cons re_int ra_nil)) (re_len cy rfl T.b_len (nv 1))))
(rs_cons (rs_for pass cy (ri_enum cy rfl T.b_enumerate (nv 1)) (rg_names cy (rgn_cons cy (rgn_cons cy rgn_nil)))
(rs_one (rs_asgT (rg_sub (i := 2) rfl (Or.inl rfl) (nv 4)) (nv 3))))
(rs_one (rs_ret (nv 2))))))))
theorem d_undone (T : Tx w K mg base) : DefOk P w K mg base 2 "undone" 2 F_undone := by
  obtain ⟨f, fd, h1, h2, h3⟩ := T.f_undone
  exact ⟨f, fd, _, h1, h2.kp, h3, fn_undone T h2⟩

abbrev s__law_numbers : Stmt := top 37
abbrev N__law_numbers : List Str := ["_law_script", "_law_many", "_law_row", "_law_seed", "_law_cell", "_law_rest", "_law_k"]
theorem sc__law_numbers : FnScope N__law_numbers ["_law_script", "_law_many"] (defScope s__law_numbers) := ⟨rfl, rfl, rfl, by decide +kernel, rfl, by decide +kernel, by decide +kernel⟩
theorem fn__law_numbers {f : Addr} {fd : FuncData} (T : Tx w K mg base) (hF : Fun K "_law_numbers" "_law_numbers" s__law_numbers f fd) : FnOk P w K mg base (L2N.CX P w) 1 f fd ["_law_script", "_law_many"] (spF K mg 2 F__law_numbers) :=
  def_fn (k := 0) hF sc__law_numbers rfl rfl (fun cdv A outer s H G E hr cy pass =>
(rs_cons (rs_set (i := 2) cy rfl (Or.inl rfl) (re_lst ra_nil))
(rs_cons (rs_set (i := 3) cy rfl (Or.inl rfl) re_int)
(rs_cons (rs_for pass cy (ri_any cy (re_sl cy (nv 0) ro_no (ro_is re_int))) (rg1 cy 4)
(rs_cons (rs_set (i := 3) cy rfl (Or.inl rfl) (re_mod (re_add cy (re_add cy (re_mul (nv 3) re_int) (re_mod (nv 4) re_int)) re_int) re_int))
(rs_cons (rs_set (i := 5) cy rfl (Or.inl rfl) (re_sub (nv 4) (re_pow re_int re_int)))
(rs_cons (rs_if (rt_cmp cd_lt (nv 5) re_int (nomark _))
(rs_one (rs_app (i := 2) rfl (Or.inl rfl) (re_mod (nv 4) re_int)))
rs_nil)
(rs_one (rs_for pass cy (ri_range1 rfl T.b_range re_int) (rg1 cy 6)
(rs_one (rs_if (rt_cmp cd_gt (nv 5) re_int (nomark _))
(rs_cons (rs_app (i := 2) rfl (Or.inl rfl) (re_mod (nv 5) re_int))
(rs_one (rs_set (i := 5) cy rfl (Or.inl rfl) (re_div (nv 5) re_int))))
rs_nil))))))))
(rs_cons (rs_while pass 1000 (rt_cmp cd_lt (re_len cy rfl T.b_len (nv 2)) (nv 1) (nomark _))
(rs_cons (rs_set (i := 3) cy rfl (Or.inl rfl) (re_mod (re_add cy (re_add cy (re_add cy (re_mul (nv 3) (nv 3)) (re_mul re_int (nv 3))) (re_mul re_int (re_len cy rfl T.b_len (nv 2)))) re_int) re_int))
(rs_one (rs_app (i := 2) rfl (Or.inl rfl) (re_mod (re_div (nv 3) re_int) re_int)))))
(rs_one (rs_ret (re_sl cy (nv 2) ro_no (ro_is (nv 1))))))))))
theorem d__law_numbers (T : Tx w K mg base) : DefOk P w K mg base 1 "_law_numbers" 2 F__law_numbers := by
  obtain ⟨f, fd, h1, h2, h3⟩ := T.f__law_numbers
  exact ⟨f, fd, _, h1, h2.kp, h3, fn__law_numbers T h2⟩

abbrev s__law_same : Stmt := top 38
abbrev N__law_same : List Str := ["_law_found", "_law_due", "_law_k"]
theorem sc__law_same : FnScope N__law_same ["_law_found", "_law_due"] (defScope s__law_same) := ⟨rfl, rfl, rfl, by decide +kernel, rfl, by decide +kernel, by decide +kernel⟩
theorem r__law_same (T : Tx w K mg base) : ∀ k : Nat, DefOk P w K mg base (k + 1) "_law_same" 2 (G__law_same k)
  | 0 => by
    obtain ⟨f, fd, h1, h2, h3⟩ := T.f__law_same
    exact ⟨f, fd, ["_law_found", "_law_due"], h1, h2.kp, h3, fn_bad⟩
  | k + 1 => by
    obtain ⟨f, fd, h1, h2, h3⟩ := T.f__law_same
    have hself := r__law_same T k
    exact ⟨f, fd, ["_law_found", "_law_due"], h1, h2.kp, h3, def_fn (k := k + 1) h2 sc__law_same rfl rfl (fun cdv A outer s H G E hr cy pass =>
(rs_cons (rs_if (rt_isN (nv 1))
(rs_one (rs_ret (re_isN (nv 0))))
rs_nil)
(rs_cons (rs_if (rt_val (re_isi2 cy rfl T.b_isinstance rfl T.b_list (by decide +kernel) rfl T.b_tuple (by decide +kernel) (nv 1)))
(rs_cons (rs_if (PW.pt (rw_or (rt_cmp (cd_ne cy) (re_isi cy rfl T.b_isinstance rfl T.b_list (by decide +kernel) (nv 0)) (re_isi cy rfl T.b_isinstance rfl T.b_list (by decide +kernel) (nv 1)) (nomark _)) (rw_or1 (rt_cmp (cd_ne cy) (re_isi cy rfl T.b_isinstance rfl T.b_tuple (by decide +kernel) (nv 0)) (re_isi cy rfl T.b_isinstance rfl T.b_tuple (by decide +kernel) (nv 1)) (nomark _)))))
(rs_one (rs_ret re_bl))
rs_nil)
(rs_one (rs_ret (re_and (re_cd (cd_eq cy) (re_len cy rfl T.b_len (nv 0)) (re_len cy rfl T.b_len (nv 1)) (nomark _)) (re_one (re_all cy rfl T.b_all (re_lc cy (ri_range1 rfl T.b_range (re_len cy rfl T.b_len (nv 1))) (blkOk_by (N := N__law_same) (sc := defScope s__law_same) (own := [("_law_k", 2)]) (by decide +kernel)) (by decide) (fun _ _ _ _ _ cy1 => (rg1 cy1 2)) (fun _ _ _ _ _ cy1 => rts_nil) (fun _ _ _ _ _ cy1 => (re_call cy1 hself (hr.mono (by omega)) rfl (ra_cons (re_ix cy1 (nv 0) (nv 2)) (ra_cons (re_ix cy1 (nv 1) (nv 2)) ra_nil)))))))))))
rs_nil)
(rs_cons (rs_if (PW.pt (rw_or (rt_cmp (cd_ne cy) (re_isi cy rfl T.b_isinstance rfl T.b_bool (by decide +kernel) (nv 0)) (re_isi cy rfl T.b_isinstance rfl T.b_bool (by decide +kernel) (nv 1)) (nomark _)) (rw_or1 (rt_cmp (cd_ne cy) (re_isi cy rfl T.b_isinstance rfl T.b_str (by decide +kernel) (nv 0)) (re_isi cy rfl T.b_isinstance rfl T.b_str (by decide +kernel) (nv 1)) (nomark _)))))
(rs_one (rs_ret re_bl))
rs_nil)
(rs_one (rs_ret (re_and (re_cd (cd_eq cy) (re_isi cy rfl T.b_isinstance rfl T.b_int (by decide +kernel) (nv 0)) (re_isi cy rfl T.b_isinstance rfl T.b_int (by decide +kernel) (nv 1)) (nomark _)) (re_one (re_cd (cd_eq cy) (nv 0) (nv 1) (nomark _))))))))))⟩
theorem d__law_same (T : Tx w K mg base) : DefOk P w K mg base 13 "_law_same" 2 F__law_same := r__law_same T 12

abbrev s__law_marks : Stmt := top 39
abbrev N__law_marks : List Str := ["_law_e", "_law_marks_here"]
theorem sc__law_marks : FnScope N__law_marks ["_law_e"] (defScope s__law_marks) := ⟨rfl, rfl, rfl, by decide +kernel, rfl, by decide +kernel, by decide +kernel⟩
theorem d__law_marks (T : Tx w K mg base) {Cs : List Addr} (R : ClsRow mg nlD Cs) (hn : Cs.length = 23) : DefOkE P w K mg base 1 "_law_marks" (spMarks K Cs) := by
  obtain ⟨f, fd, h1, h2, h3⟩ := T.f__law_marks
  obtain ⟨oc, od, kV, doc, pm, an, cdv, ct, osl, rfl, lk, hcd⟩ := h2.ex
  have nd := sc__law_marks.nd
  exact ⟨f, _, "_law_e", h1, h2.kp, h3, fn_marks lk hcd sc__law_marks hn fun A outer s H E p D b hm ec hz hf hk =>
(mk_set nd rfl rfl (lst_disp (ansl_cons (ans_row R ec hm hz hf T.b_isinstance hk rfl (.inl rfl) 0 rfl) (ansl_cons (ans_row R ec hm hz hf T.b_isinstance hk rfl (.inl rfl) 1 rfl) (ansl_cons (ans_row R ec hm hz hf T.b_isinstance hk rfl (.inl rfl) 2 rfl) (ansl_cons (ans_row R ec hm hz hf T.b_isinstance hk rfl (.inl rfl) 3 rfl) ansl_nil)))) (Nat.le_of_ble_eq_true rfl))
(mk_set nd rfl rfl (lst_cat rfl (.inl rfl) (lst_disp (ansl_cons (ans_row R ec hm hz hf T.b_isinstance hk rfl (.inl rfl) 4 rfl) (ansl_cons (ans_row R ec hm hz hf T.b_isinstance hk rfl (.inl rfl) 5 rfl) (ansl_cons (ans_row R ec hm hz hf T.b_isinstance hk rfl (.inl rfl) 6 rfl) (ansl_cons (ans_row R ec hm hz hf T.b_isinstance hk rfl (.inl rfl) 7 rfl) ansl_nil)))) (Nat.le_of_ble_eq_true rfl)) (Nat.le_of_ble_eq_true rfl))
(mk_set nd rfl rfl (lst_cat rfl (.inl rfl) (lst_disp (ansl_cons (ans_row R ec hm hz hf T.b_isinstance hk rfl (.inl rfl) 8 rfl) (ansl_cons (ans_row R ec hm hz hf T.b_isinstance hk rfl (.inl rfl) 9 rfl) (ansl_cons (ans_row R ec hm hz hf T.b_isinstance hk rfl (.inl rfl) 10 rfl) (ansl_cons (ans_row R ec hm hz hf T.b_isinstance hk rfl (.inl rfl) 11 rfl) ansl_nil)))) (Nat.le_of_ble_eq_true rfl)) (Nat.le_of_ble_eq_true rfl))
(mk_set nd rfl rfl (lst_cat rfl (.inl rfl) (lst_disp (ansl_cons (ans_row R ec hm hz hf T.b_isinstance hk rfl (.inl rfl) 12 rfl) (ansl_cons (ans_row R ec hm hz hf T.b_isinstance hk rfl (.inl rfl) 13 rfl) (ansl_cons (ans_row R ec hm hz hf T.b_isinstance hk rfl (.inl rfl) 14 rfl) (ansl_cons (ans_row R ec hm hz hf T.b_isinstance hk rfl (.inl rfl) 15 rfl) ansl_nil)))) (Nat.le_of_ble_eq_true rfl)) (Nat.le_of_ble_eq_true rfl))
(mk_set nd rfl rfl (lst_cat rfl (.inl rfl) (lst_disp (ansl_cons (ans_row R ec hm hz hf T.b_isinstance hk rfl (.inl rfl) 16 rfl) (ansl_cons (ans_row R ec hm hz hf T.b_isinstance hk rfl (.inl rfl) 17 rfl) (ansl_cons (ans_row R ec hm hz hf T.b_isinstance hk rfl (.inl rfl) 18 rfl) (ansl_cons (ans_row R ec hm hz hf T.b_isinstance hk rfl (.inl rfl) 19 rfl) ansl_nil)))) (Nat.le_of_ble_eq_true rfl)) (Nat.le_of_ble_eq_true rfl))
(mk_ret (lst_cat rfl (.inl rfl) (lst_disp (ansl_cons (ans_row R ec hm hz hf T.b_isinstance hk rfl (.inl rfl) 20 rfl) (ansl_cons (ans_row R ec hm hz hf T.b_isinstance hk rfl (.inl rfl) 21 rfl) (ansl_cons (ans_row R ec hm hz hf T.b_isinstance hk rfl (.inl rfl) 22 rfl) ansl_nil))) (Nat.le_of_ble_eq_true rfl)) (Nat.le_of_ble_eq_true rfl))))))))⟩
abbrev s__law_marked : Stmt := top 40
abbrev N__law_marked : List Str := ["_law_marks_here", "_law_names", "_law_name", "_law_here"]
theorem sc__law_marked : FnScope N__law_marked ["_law_marks_here"] (defScope s__law_marked) := ⟨rfl, rfl, rfl, by decide +kernel, rfl, by decide +kernel, by decide +kernel⟩
theorem d__law_marked (T : Tx w K mg base) : DefOkH P w K mg base 1 "_law_marked" (spMarked ("+" : Str) (" " : Str) (("BadSpots BadWay BadCall BadBar BadFigure BadNumber TooMany Same BadName" : Str) ++ (" Known BadKind Few Full Taken NoFigure NoSet NoCouple" : Str) ++ (" WrongSize Fixed Last NoEntry NotDanced NothingLeft" : Str))) := by
  obtain ⟨f, fd, h1, h2, h3⟩ := T.f__law_marked
  obtain ⟨oc, od, kV, doc, pm, an, cdv, ct, osl, rfl, lk, hcd⟩ := h2.ex
  have nd := sc__law_marked.nd
  exact ⟨f, _, "_law_marks_here", h1, h2.kp, h3, fn_marked lk hcd sc__law_marked fun A outer s H E p hot =>
(mt_set0 nd rfl rfl
(mt_add nd rfl rfl (.inl rfl) (mt_add nd rfl rfl (.inl rfl) (mt_ret (pe_marked hot nd rfl rfl rfl rfl (.inl rfl) (.inl rfl) (by decide +kernel) (by decide +kernel) rfl T.b_zip (blkOk_by (N := N__law_marked) (sc := defScope s__law_marked) (own := [("_law_name", 2), ("_law_here", 3)]) (by decide +kernel))) (by decide +kernel) (by decide +kernel) (by decide +kernel)) (by decide +kernel)) (by decide +kernel)))⟩
abbrev s__law_tried : Stmt := top 41
abbrev N__law_tried : List Str := ["_law_ask", "_law_told", "_law_word", "_law_e"]
theorem sc__law_tried : FnScope N__law_tried ["_law_ask"] (defScope s__law_tried) := ⟨rfl, rfl, rfl, by decide +kernel, rfl, by decide +kernel, by decide +kernel⟩
theorem d__law_tried (T : Tx w K mg base) {X : Cx} (e1 : X.prog = P) (e2 : X.w = w) (e3 : X.K = K) (e4 : X.mg = mg) (e5 : X.base = base) : TriedOk X xL "_law_tried" := by
  subst e1 e2 e3 e4 e5
  obtain ⟨c1, c2, c3, c4, Cs, m1, m2, m3, m4, R, hn, hx⟩ := T.tr.ex
  obtain ⟨g, fd, h1, h2, h3⟩ := T.f__law_tried
  obtain ⟨oc, od, kV, doc, pm, an, cdv, ct, osl, rfl, lk, hcd⟩ := h2.ex
  exact ⟨_, ⟨"_law_ask", g, _, _, _, _, _, _, _, _, _, _, _, _, _, _, h1, h2.kp, lk, hcd, h3, sc__law_tried, rfl, .inl rfl, by decide, by decide, fun q =>
    tried_gives (by decide +kernel) rfl rfl rfl rfl rfl rfl rfl m1 m2 m3 m4 suiteOk_no suiteOk_no suiteOk_no (suite_marks (by decide +kernel) rfl rfl rfl rfl rfl rfl (d__law_marks T R hn) (d__law_marked T))⟩,
    trOk_of hx (by decide +kernel)⟩

abbrev s__law_spots : Stmt := top 42
abbrev N__law_spots : List Str := ["_law_d"]
theorem sc__law_spots : FnScope N__law_spots ["_law_d"] (defScope s__law_spots) := ⟨rfl, rfl, rfl, by decide +kernel, rfl, by decide +kernel, by decide +kernel⟩
theorem fn__law_spots {f : Addr} {fd : FuncData} (T : Tx w K mg base) (hF : Fun K "_law_spots" "_law_spots" s__law_spots f fd) : FnOk P w K mg base (L2N.CX P w) 1 f fd ["_law_d"] (spF K mg 1 F__law_spots) :=
  def_fn (k := 0) hF sc__law_spots rfl rfl (fun cdv A outer s H G E hr cy pass =>
(rs_one (rs_ret (re_ix cy (re_lst (ra_cons re_int (ra_cons re_int (ra_cons re_int (ra_cons re_int (ra_cons re_int (ra_cons re_int (ra_cons re_int ra_nil)))))))) (re_mod (nv 0) re_int)))))
theorem d__law_spots (T : Tx w K mg base) : DefOk P w K mg base 1 "_law_spots" 1 F__law_spots := by
  obtain ⟨f, fd, h1, h2, h3⟩ := T.f__law_spots
  exact ⟨f, fd, _, h1, h2.kp, h3, fn__law_spots T h2⟩

abbrev s__law_any_spots : Stmt := top 43
abbrev N__law_any_spots : List Str := ["_law_number"]
theorem sc__law_any_spots : FnScope N__law_any_spots ["_law_number"] (defScope s__law_any_spots) := ⟨rfl, rfl, rfl, by decide +kernel, rfl, by decide +kernel, by decide +kernel⟩
theorem fn__law_any_spots {f : Addr} {fd : FuncData} (T : Tx w K mg base) (hF : Fun K "_law_any_spots" "_law_any_spots" s__law_any_spots f fd) : FnOk P w K mg base (L2N.CX P w) 2 f fd ["_law_number"] (spF K mg 1 F__law_any_spots) :=
  def_fn (k := 1) hF sc__law_any_spots rfl rfl (fun cdv A outer s H G E hr cy pass =>
(rs_cons (rs_if (rt_cmp cd_lt (re_mod (nv 0) re_int) re_int (nomark _))
(rs_one (rs_ret (re_call cy (d__law_spots T) (hr.mono (by decide)) rfl (ra_cons (re_div (nv 0) re_int) ra_nil))))
rs_nil)
(rs_one (rs_ret (re_ix cy (re_lst (ra_cons re_int (ra_cons re_int (ra_cons re_int (ra_cons re_int (ra_cons (re_neg re_int) (ra_cons (re_pow re_int re_int) (ra_cons (re_neg (re_pow re_int re_int)) ra_nil)))))))) (re_mod (re_div (nv 0) re_int) re_int))))))
theorem d__law_any_spots (T : Tx w K mg base) : DefOk P w K mg base 2 "_law_any_spots" 1 F__law_any_spots := by
  obtain ⟨f, fd, h1, h2, h3⟩ := T.f__law_any_spots
  exact ⟨f, fd, _, h1, h2.kp, h3, fn__law_any_spots T h2⟩

abbrev s__law_mixed : Stmt := top 44
abbrev N__law_mixed : List Str := ["_law_d", "_law_many", "_law_found", "_law_k"]
theorem sc__law_mixed : FnScope N__law_mixed ["_law_d", "_law_many"] (defScope s__law_mixed) := ⟨rfl, rfl, rfl, by decide +kernel, rfl, by decide +kernel, by decide +kernel⟩
theorem fn__law_mixed {f : Addr} {fd : FuncData} (T : Tx w K mg base) (hF : Fun K "_law_mixed" "_law_mixed" s__law_mixed f fd) : FnOk P w K mg base (L2N.CX P w) 1 f fd ["_law_d", "_law_many"] (spF K mg 2 F__law_mixed) :=
  def_fn (k := 0) hF sc__law_mixed rfl rfl (fun cdv A outer s H G E hr cy pass =>
(rs_cons (rs_set (i := 2) cy rfl (Or.inl rfl) (re_lst ra_nil))
(rs_cons (rs_for pass cy (ri_range1 rfl T.b_range (nv 1)) (rg1 cy 3)
(rs_one (rs_ins (i := 2) rfl (Or.inl rfl) (re_mod (re_ix cy (nv 0) (nv 3)) (re_add cy (nv 3) re_int)) (nv 3))))
(rs_one (rs_ret (nv 2))))))
theorem d__law_mixed (T : Tx w K mg base) : DefOk P w K mg base 1 "_law_mixed" 2 F__law_mixed := by
  obtain ⟨f, fd, h1, h2, h3⟩ := T.f__law_mixed
  exact ⟨f, fd, _, h1, h2.kp, h3, fn__law_mixed T h2⟩

abbrev s__law_bent : Stmt := top 45
abbrev N__law_bent : List Str := ["_law_way", "_law_d", "_law_at", "_law_odd"]
theorem sc__law_bent : FnScope N__law_bent ["_law_way", "_law_d"] (defScope s__law_bent) := ⟨rfl, rfl, rfl, by decide +kernel, rfl, by decide +kernel, by decide +kernel⟩
theorem fn__law_bent {f : Addr} {fd : FuncData} (T : Tx w K mg base) (hF : Fun K "_law_bent" "_law_bent" s__law_bent f fd) : FnOk P w K mg base (L2N.CX P w) 1 f fd ["_law_way", "_law_d"] (spF K mg 2 F__law_bent) :=
  def_fn (k := 0) hF sc__law_bent rfl rfl (fun cdv A outer s H G E hr cy pass =>
(rs_cons (rs_set (i := 2) cy rfl (Or.inl rfl) (re_mod (re_ix cy (nv 1) re_int) (re_len cy rfl T.b_len (nv 0))))
(rs_cons (rs_set (i := 3) cy rfl (Or.inl rfl) (re_ix cy (re_lst (ra_cons (re_neg re_int) (ra_cons (re_len cy rfl T.b_len (nv 0)) (ra_cons (re_ix cy (nv 0) re_int) (ra_cons (re_pow re_int re_int) (ra_cons (re_ix cy (nv 0) (re_neg re_int)) ra_nil)))))) (re_mod (re_ix cy (nv 1) re_int) re_int)))
(rs_frz 3 (rs_one (rs_ret (re_ix cy (re_lst (ra_cons (nv 0) (ra_cons (nv 0) (ra_cons (re_add cy (re_add cy (re_sl cy (nv 0) ro_no (ro_is (nv 2))) (re_lst (ra_cons (nv 3) ra_nil))) (re_sl cy (nv 0) (ro_is (re_add cy (nv 2) re_int)) ro_no)) (ra_cons (re_add cy (re_sl cy (nv 0) ro_no (ro_is (nv 2))) (re_sl cy (nv 0) (ro_is (re_add cy (nv 2) re_int)) ro_no)) (ra_cons (re_add cy (nv 0) (re_lst (ra_cons (nv 3) ra_nil))) (ra_cons (re_rev cy (nv 0)) ra_nil))))))) (re_mod (re_ix cy (nv 1) re_int) re_int))))))))
theorem d__law_bent (T : Tx w K mg base) : DefOk P w K mg base 1 "_law_bent" 2 F__law_bent := by
  obtain ⟨f, fd, h1, h2, h3⟩ := T.f__law_bent
  exact ⟨f, fd, _, h1, h2.kp, h3, fn__law_bent T h2⟩

abbrev s_law : Stmt := top 46
abbrev N_law : List Str := ["_law_script", "_law_numbers_here", "_law_turn", "_law_d", "_law_spots_here", "_law_size", "_law_one", "_law_other", "_law_handed", "_law_bad", "_law_way", "_law_due", "_law_place", "_law_found"]
theorem sc_law : FnScope N_law ["_law_script"] (defScope s_law) := ⟨rfl, rfl, rfl, by decide +kernel, rfl, by decide +kernel, by decide +kernel⟩
theorem fn_law {f : Addr} {fd : FuncData} {cdv : Value} (T : Tx w K mg base) (hF : FunC K "law" "law" s_law f fd cdv) (hL : LamF base mg cdv ((("law" : Str) ++ ".<locals>.") ++ "<lambda>")) : FnOk P w K mg base (L2N.CX P w) 14 f fd ["_law_script"] (spF K mg 1 F_law) :=
  def_fnF (k := 13) hF sc_law rfl rfl (fun A outer s H G E hr cy pass =>
(rs_cons (rs_set (i := 1) cy rfl (Or.inl rfl) (re_call cy (d__law_numbers T) (hr.mono (by decide)) rfl (ra_cons (nv 0) (ra_cons re_int ra_nil))))
(rs_cons (rs_for pass cy (ri_range1 rfl T.b_range re_int) (rg1 cy 2)
(rs_cons (rs_set (i := 3) cy rfl (Or.inl rfl) (re_sl cy (nv 1) (ro_is (re_mul re_int (nv 2))) (ro_is (re_add cy (re_mul re_int (nv 2)) re_int))))
(rs_cons (rs_set (i := 4) cy rfl (Or.inr rfl) (re_call cy (d__law_any_spots T) (hr.mono (by decide)) rfl (ra_cons (re_ix cy (nv 3) re_int) ra_nil)))
(rs_cons (rs_set (i := 5) cy rfl (Or.inl rfl) (re_mul re_int (re_call cy (d__law_spots T) (hr.mono (by decide)) rfl (ra_cons (re_div (re_ix cy (nv 3) re_int) re_int) ra_nil))))
(rs_frz 5 (rs_cons (rs_set (i := 6) cy rfl (Or.inr rfl) (re_call cy (d__law_bent T) (hr.mono (by decide)) rfl (ra_cons (re_call cy (d__law_mixed T) (hr.mono (by decide)) rfl (ra_cons (re_sl cy (nv 3) (ro_is re_int) ro_no) (ra_cons (nv 5) ra_nil))) (ra_cons (re_sl cy (nv 3) (ro_is re_int) ro_no) ra_nil))))
(rs_frz 5 (rs_cons (rs_set (i := 7) cy rfl (Or.inr rfl) (re_call cy (d__law_bent T) (hr.mono (by decide)) rfl (ra_cons (re_call cy (d__law_mixed T) (hr.mono (by decide)) rfl (ra_cons (re_sl cy (nv 3) (ro_is re_int) ro_no) (ra_cons (nv 5) ra_nil))) (ra_cons (re_sl cy (nv 3) (ro_is re_int) ro_no) ra_nil))))
(rs_cons (rs_set (i := 8) cy rfl (Or.inr rfl) (re_lst (ra_cons (re_list cy rfl T.b_list (nv 6)) (ra_cons (re_list cy rfl T.b_list (nv 7)) ra_nil))))
(rs_frz 8 (rs_cons (rs_setLc (i := 9) cy rfl rfl (sw_true rfl rfl rfl (by decide +kernel)) (ri_any cy (nv 8)) (blkOk_by (N := N_law) (sc := defScope s_law) (own := [("_law_way", 10)]) (by decide +kernel)) (by decide) (fun _ _ _ _ _ cy1 => (rg1 cy1 10)) (fun _ _ _ _ _ cy1 => rts_nil) (fun _ _ _ _ _ cy1 => (re_cd (cd_ne cy1) (re_sort cy1 rfl T.b_sorted (nv 10)) (re_listRX cy1 rfl T.b_list rfl T.b_range (re_mul re_int (re_min2 cy1 rfl T.b_min (nv 4) re_int))) (nomark _))))
(rs_cons (rs_set (i := 11) cy rfl (Or.inl rfl) (re_mul (re_lst (ra_cons (re_tup (ra_cons re_n (ra_cons re_s ra_nil))) ra_nil)) re_int))
(rs_cons (rs_if (rt_chain cd_le cd_le re_int (nv 4) re_int)
(rs_cons (rs_set (i := 11) cy rfl (Or.inl rfl) (re_lst (ra_cons (re_tup (ra_cons (re_listR1 cy rfl T.b_list rfl T.b_range (re_mul re_int (nv 4))) (ra_cons re_s ra_nil))) (ra_cons (re_tup (ra_cons re_n (ra_cons re_s ra_nil))) (ra_cons (re_tup (ra_cons re_n (ra_cons re_s ra_nil))) ra_nil)))))
(rs_cons (rs_if (rt_not (rt_val (re_ix cy (nv 9) re_int)))
(rs_one (rs_asgT (rg_sub (i := 11) rfl (Or.inl rfl) re_int) (re_tup (ra_cons (re_lc cy (ri_range1 rfl T.b_range (re_mul re_int (nv 4))) (blkOk_by (N := N_law) (sc := defScope s_law) (own := [("_law_place", 12)]) (by decide +kernel)) (by decide) (fun _ _ _ _ _ cy2 => (rg1 cy2 12)) (fun _ _ _ _ _ cy2 => rts_nil) (fun _ _ _ _ _ cy2 => (re_index cy2 (nv 6) (nv 12)))) (ra_cons re_s ra_nil)))))
rs_nil)
(rs_one (rs_if (rt_cmp (cd_notIn cy (hr.units65)) re_bl (nv 9) (by rfl))
(rs_frz 6 (rs_one (rs_asgT (rg_sub (i := 11) rfl (Or.inl rfl) re_int) (re_tup (ra_cons (re_lc cy (ri_any cy (nv 6)) (blkOk_by (N := N_law) (sc := defScope s_law) (own := [("_law_place", 12)]) (by decide +kernel)) (by decide) (fun _ _ _ _ _ cy3 => (rg1 cy3 12)) (fun _ _ _ _ _ cy3 => rts_nil) (fun _ _ _ _ _ cy3 => (re_ix cy3 (nv 7) (nv 12)))) (ra_cons re_s ra_nil))))))
rs_nil))))
rs_nil)
(rs_frz 4 (rs_cons (rs_set (i := 13) cy rfl (Or.inl rfl) (re_lst (ra_cons (re_tr cy 2 (d__law_tried T rfl rfl rfl rfl rfl) hL (hr.mono (by decide)) (fun _ _ _ _ _ _ _ hr cyl => (re_call cyl (d_still T) (hr.mono (by decide)) rfl (ra_cons (nv 4) ra_nil))) (S := LamX.lamS_by (sc := defScope s_law) (by decide +kernel))) ra_nil)))
(rs_frz 8 (rs_frz 4 (rs_cons (rs_app (i := 13) rfl (Or.inl rfl) (re_tr cy 2 (d__law_tried T rfl rfl rfl rfl rfl) hL (hr.mono (by decide)) (fun _ _ _ _ _ _ _ hr cyl => (re_call cyl (d_undone T) (hr.mono (by decide)) rfl (ra_cons (nv 4) (ra_cons (re_ix cyl (nv 8) re_int) ra_nil)))) (S := LamX.lamS_by (sc := defScope s_law) (by decide +kernel))))
(rs_frz 8 (rs_frz 4 (rs_cons (rs_app (i := 13) rfl (Or.inl rfl) (re_tr cy 2 (d__law_tried T rfl rfl rfl rfl rfl) hL (hr.mono (by decide)) (fun _ _ _ _ _ _ _ hr cyl => (re_call cyl (d_then T) (hr.mono (by decide)) rfl (ra_cons (nv 4) (ra_cons (re_ix cyl (nv 8) re_int) (ra_cons (re_ix cyl (nv 8) re_int) ra_nil))))) (S := LamX.lamS_by (sc := defScope s_law) (by decide +kernel))))
(rs_frz 7 (rs_frz 6 (rs_one (rs_if (PW.pt (rw_or (rt_not (rt_val (re_fz 13 (re_fz 11 (re_call cy (d__law_same T) (hr.mono (by decide)) rfl (ra_cons (nv 13) (ra_cons (nv 11) ra_nil))))))) (rw_or1 (rt_cmp (cd_ne cy) (nv 8) (re_lst (ra_cons (nv 6) (ra_cons (nv 7) ra_nil))) (nomark _)))))
(rs_one (rs_ret re_bl))
rs_nil)))))))))))))))))))))))))
(rs_one (rs_ret re_bl)))))
end
end C
end

section
set_option maxRecDepth 100000
set_option maxHeartbeats 1000000
namespace C
open PySem PySem.Spec L2 Ly
open PyProof.Rows hiding St
theorem same_seq {k : Nat} {d : D} {ds : List D} (hty : (∃ t, d = .l t) ∨ ∃ t, d = .t t) (hk : ∀ k : Int, kIx (.sh d) (.sh (.i k)) = ixR ds k) (hlen : kLen (.sh d) = .ok (.sh (.i ds.length))) (hl : ds.length ≤ 16777216) (hs : ∀ x ∈ ds, G__law_same k [x, x] = .ok (.sh (.b true))) : G__law_same (k + 1) [d, d] = .ok (.sh (.b true)) := by
  have h1 : kIs false (.sh d) (.sh .n) = .ok (.sh (.b false)) := by rcases hty with ⟨t, rfl⟩ | ⟨t, rfl⟩ <;> rfl
  have h2 : kIsi2 "list" "tuple" (.sh d) = .ok (.sh (.b true)) := by rcases hty with ⟨t, rfl⟩ | ⟨t, rfl⟩ <;> rfl
  have h3 : ∃ a, kIsi "list" (.sh d) = .ok (.sh (.b a)) := by rcases hty with ⟨t, rfl⟩ | ⟨t, rfl⟩ <;> exact ⟨_, rfl⟩
  have h4 : ∃ a, kIsi "tuple" (.sh d) = .ok (.sh (.b a)) := by rcases hty with ⟨t, rfl⟩ | ⟨t, rfl⟩ <;> exact ⟨_, rfl⟩
  have h5 : ∀ a : Bool, kNe (.sh (.b a)) (.sh (.b a)) = .ok (.sh (.b false)) := by intro a; cases a <;> rfl
  obtain ⟨a, h3⟩ := h3
  obtain ⟨b, h4⟩ := h4
  have hr : itR 0 (ds.length : Int) = .ok (rgD 0 ds.length) := itR_ok (by unfold rgb; exact decide_eq_true ⟨by decide, by decide, by omega, by omega⟩)
  have hL : ∀ e, lcL (.one 2) tYesF (eCall 2 (G__law_same k) (aCons (e2 kIx (eV 0) (eV 2)) (aCons (e2 kIx (eV 1) (eV 2)) aNil))) [some (.sh d), some (.sh d), e] (rgD 0 ds.length) = .ok (List.replicate ds.length (.b true)) := by
    intro e
    have := lcL_same (t := .one 2) (fe := eCall 2 (G__law_same k) (aCons (e2 kIx (eV 0) (eV 2)) (aCons (e2 kIx (eV 1) (eV 2)) aNil))) (y := .b true) (Γ0 := [some (.sh d), some (.sh d), e]) (ds := rgD 0 ds.length) fun x hx => by
      obtain ⟨i, hi⟩ := List.getElem?_of_mem hx
      obtain ⟨rfl, hi⟩ := rgD_get hi
      have hlt : i < ds.length := by omega
      have e1 : kIx (.sh d) (.sh (.i (0 + (i : Int)))) = .ok (.sh ds[i]) := by rw [hk]; exact ixR_is (n := i) (by omega) (by simp [hlt])
      refine ⟨_, rfl, .sh (.b true), ?_, rfl⟩
      simp only [List.set_cons_zero, List.set_cons_succ, eCall_at, aCons_at, e2_at, eV_0, eV_s, aNil_at]
      simp [hs _ (List.getElem_mem hlt)] at e1 ⊢
      simp [e1, hs _ (List.getElem_mem hlt)]
    rw [this]
    simp [rgD]
  rw [G__law_same, runF, b__law_same]
  simp -implicitDefEqProofs [h1, h2, h3, h4, h5, hlen, hr, hL, lcRes_rep hl, kAll_rep]
theorem same_refl : ∀ (n : Nat) (d : D), dsame n d = true → G__law_same (n + 1) [d, d] = .ok (.sh (.b true))
  | _, .n, _ => rfl
  | _, .b x, _ => by cases x <;> rfl
  | _, .i x, _ => by
    have h1 : kIs false (.sh (.i x)) (.sh .n) = .ok (.sh (.b false)) := rfl
    have h2 : kIsi2 "list" "tuple" (.sh (.i x)) = .ok (.sh (.b false)) := rfl
    have h3 : kIsi "bool" (.sh (.i x)) = .ok (.sh (.b false)) := rfl
    have h4 : kIsi "str" (.sh (.i x)) = .ok (.sh (.b false)) := rfl
    have h6 : kIsi "int" (.sh (.i x)) = .ok (.sh (.b true)) := rfl
    have h5 : ∀ a : Bool, kNe (.sh (.b a)) (.sh (.b a)) = .ok (.sh (.b false)) := by intro a; cases a <;> rfl
    have h7 : ∀ a : Bool, kEq (.sh (.b a)) (.sh (.b a)) = .ok (.sh (.b true)) := by intro a; cases a <;> rfl
    rw [G__law_same, runF, b__law_same]
    simp [h1, h2, h3, h4, h5, h6, h7]
  | _, .s x, h => by
    have hx : PyData.strOk x = true := by simpa [dsame] using h
    have h1 : kIs false (.sh (.s x)) (.sh .n) = .ok (.sh (.b false)) := rfl
    have h2 : kIsi2 "list" "tuple" (.sh (.s x)) = .ok (.sh (.b false)) := rfl
    have h3 : kIsi "bool" (.sh (.s x)) = .ok (.sh (.b false)) := rfl
    have h4 : kIsi "str" (.sh (.s x)) = .ok (.sh (.b true)) := rfl
    have h6 : kIsi "int" (.sh (.s x)) = .ok (.sh (.b false)) := rfl
    have h5 : ∀ a : Bool, kNe (.sh (.b a)) (.sh (.b a)) = .ok (.sh (.b false)) := by intro a; cases a <;> rfl
    have h7 : ∀ a : Bool, kEq (.sh (.b a)) (.sh (.b a)) = .ok (.sh (.b true)) := by intro a; cases a <;> rfl
    have h8 : kEq (.sh (.s x)) (.sh (.s x)) = .ok (.sh (.b true)) := by
      unfold kEq
      have : dok 12 (.s x) = true := by simpa [dok] using hx
      rw [if_pos ⟨this, this⟩]
      show okb (x == x) = _
      simp [okb]
    rw [G__law_same, runF, b__law_same]
    simp [h1, h2, h3, h4, h5, h6, h7, h8]
  | n + 1, .l xs, h => by
    simp [dsame] at h
    exact same_seq (.inl ⟨_, rfl⟩) (fun _ => rfl) rfl h.2 fun x hx => same_refl n x (h.1 x hx)
  | n + 1, .t xs, h => by
    simp [dsame] at h
    exact same_seq (ds := xs) (.inr ⟨_, rfl⟩) (fun _ => rfl) rfl h.2 fun x hx => same_refl n x (h.1 x hx)
  | 0, .l _, h | 0, .t _, h | _, .z _, h | _, .zt _, h | _, .dk _ _, h | _, .dt _ _, h | _, .o _, h => by simp [dsame] at h
theorem same_law {d : D} (h : dsame 11 d = true) : F__law_same [d, d] = .ok (.sh (.b true)) := same_refl 11 d h
theorem t_same {α : Type} [DecidableEq α] (ea : α → D) (a b : α) : RE1 .sh eB (sameT ea a b) (F__law_same [ea a, ea b]) := same_of (fun d h => same_law h) a b
end C
end

section
set_option maxRecDepth 100000
set_option maxHeartbeats 4000000
namespace C
open PySem PySem.Spec L2 Ly
open PyProof.Rows hiding St
def T_look_spots (p0 : Int) : Re Unit :=
  ((Re.ok ((decide (p0 < (2 : Int))) || (decide ((6 : Int) < p0))) : Re Bool).bind fun v1 => if v1 = true then (Re.ex ⟨"BadSpots", none⟩ : Re Unit) else (Re.ok () : Re Unit))
theorem t_look_spots (p0 : Int) : RE1 .sh eU (T_look_spots p0) (F_look_spots [eI p0]) := fn_t0 rfl (by decide) (n := 1) (mm := 1) (by
  unfold T_look_spots b_look_spots
  exact (bg_last (bg_ifD (tr_orp (tr_v (er_p2 (er_v (i := 0) (a := p0) (e := eI) (by rfl)) er_i o_lt)) (tr_v (er_p2 (er_v (i := 0) (a := p0) (e := eI) (by rfl)) er_i o_gt))) bg_raise (bg_nil bg_end0))))

def T_still (p0 : Int) : Re (List Int) :=
  ((T_look_spots p0).bind fun (v1 : Unit) => ((lrT 0 ((2 : Int) * p0)).bind fun (v2 : (List Int)) => Re.ok v2))
theorem t_still (p0 : Int) : RE1 .fr (eL eI) (T_still p0) (F_still [eI p0]) := fn_t rfl (by decide) rfl (n := 1) (mm := 1) (by
  unfold T_still b_still
  exact (bg_ex (er_callp (ar_c rfl (er_v (i := 0) (a := p0) (e := eI) (by rfl)) ar_n) rfl rfl (t_look_spots p0)) fun v1 => (bg_last (bg_ret (er_p1 (er_p2 er_i (er_v (i := 0) (a := p0) (e := eI) (by rfl)) (o_mul_l (by decide))) o_lr1) fun _ => ⟨_, rfl, rfl⟩))))

def T_look_way (p0 : Int) (p1 : (List Int)) : Re Unit :=
  (((lrT 0 ((2 : Int) * p0)).bind fun v1 => Re.ok (!decide ((sortI p1) = v1))).bind fun v2 => if v2 = true then (Re.ex ⟨"BadWay", none⟩ : Re Unit) else (Re.ok () : Re Unit))
theorem t_look_way (p0 : Int) (p1 : (List Int)) : RE1 .sh eU (T_look_way p0 p1) (F_look_way [eI p0, (eL eI) p1]) := fn_t0 rfl (by decide) (n := 2) (mm := 2) (by
  unfold T_look_way b_look_way
  exact (bg_last (bg_ifD (tr_v (er_pl (er_p1 (er_v (i := 1) (a := p1) (e := (eL eI)) (by rfl)) o_sort) (er_p1 (er_p2 er_i (er_v (i := 0) (a := p0) (e := eI) (by rfl)) (o_mul_l (by decide))) o_lr1) fun _ => (o_ne (eqL (eqI 11))))) bg_raise (bg_nil bg_end0))))

def T_then (p0 : Int) (p1 : (List Int)) (p2 : (List Int)) : Re (List Int) :=
  ((T_look_spots p0).bind fun (v1 : Unit) => ((T_look_way p0 p1).bind fun (v2 : Unit) => ((T_look_way p0 p2).bind fun (v3 : Unit) => (((Re.ok p1 : Re (List Int)).bind fun v5 => lcM (mapT (fun (v4 : Int) => (ixT p2 v4)) v5)).bind fun (v6 : (List Int)) => Re.ok v6))))
theorem t_then (p0 : Int) (p1 : (List Int)) (p2 : (List Int)) : RE1 .fr (eL eI) (T_then p0 p1 p2) (F_then [eI p0, (eL eI) p1, (eL eI) p2]) := fn_t rfl (by decide) rfl (n := 3) (mm := 4) (by
  unfold T_then b_then
  exact (bg_ex (er_callp (ar_c rfl (er_v (i := 0) (a := p0) (e := eI) (by rfl)) ar_n) rfl rfl (t_look_spots p0)) fun v1 => (bg_ex (er_callp (ar_c rfl (er_v (i := 0) (a := p0) (e := eI) (by rfl)) (ar_c rfl (er_v (i := 1) (a := p1) (e := (eL eI)) (by rfl)) ar_n)) rfl rfl (t_look_way p0 p1)) fun v2 => (bg_ex (er_callp (ar_c rfl (er_v (i := 0) (a := p0) (e := eI) (by rfl)) (ar_c rfl (er_v (i := 2) (a := p2) (e := (eL eI)) (by rfl)) ar_n)) rfl rfl (t_look_way p0 p2)) fun v3 => (bg_last (bg_ret (er_lc (ir_a rfl (er_v (i := 1) (a := p1) (e := (eL eI)) (by rfl))) (tc_1 (m := 4) (by decide)) rfl fun v4 => (er_p2 (er_v (i := 2) (a := p2) (e := (eL eI)) (by rfl)) (er_v (i := 3) (a := v4) (e := eI) (by rfl)) o_ix)) fun _ => ⟨_, rfl, rfl⟩))))))

def B1_undone   (v5 : (List Int)) (v4 : (Int × Int)) : Re ((List Int)) :=
  ((Re.ok v4.1 : Re Int).bind fun (v9 : Int) => ((nxT (Re.ok v4.2 : Re Int)).bind fun (v10 : Int) => (setT v5 v10 v9).bind fun v11 => (Re.ok v11 : Re ((List Int)))))
theorem tb1_undone (p0 : Int) (p1 : (List Int))  (v5 : (List Int)) (v4 : (Int × Int)) : BG 5 ([(4, Rv.sh (eI v4.2)), (3, Rv.sh (eI v4.1))] ++ [(0, .sh (eI p0)), (1, .sh ((eL eI) p1)), (2, .fr ((eL eI) v5))]) (PN 5 (fun (v5 : (List Int)) => [(0, .sh (eI p0)), (1, .sh ((eL eI) p1)), (2, .fr ((eL eI) v5))])) (B1_undone  v5 v4) L1_undone := by
  unfold B1_undone L1_undone
  exact (bg_last (bg_sub1 (i := 2) (xs := v5) (e := eI) (by rfl) rfl (er_v (i := 3) (a := v4.1) (e := eI) (by rfl)) (er_v (i := 4) (a := v4.2) (e := eI) (by rfl)) fun v11 => (bg_end (sub_c (by rfl) (sub_c (by rfl) (sub_c (by rfl) (sub_n)))))))
def T_undone (p0 : Int) (p1 : (List Int)) : Re (List Int) :=
  ((T_look_spots p0).bind fun (v1 : Unit) => ((T_look_way p0 p1).bind fun (v2 : Unit) => ((repT ([(0 : Int)] : List Int) ((p1).length : Int)).bind fun (v3 : (List Int)) => ((Re.ok (enumI p1) : Re (List (Int × Int))).bind fun v14 => (forT (B1_undone ) v14 v3).bind fun (v12 : (List Int)) => ((Re.ok v12 : Re (List Int)).bind fun (v13 : (List Int)) => Re.ok v13)))))
theorem t_undone (p0 : Int) (p1 : (List Int)) : RE1 .fr (eL eI) (T_undone p0 p1) (F_undone [eI p0, (eL eI) p1]) := fn_t rfl (by decide) rfl (n := 2) (mm := 5) (by
  unfold T_undone b_undone
  exact (bg_ex (er_callp (ar_c rfl (er_v (i := 0) (a := p0) (e := eI) (by rfl)) ar_n) rfl rfl (t_look_spots p0)) fun v1 => (bg_ex (er_callp (ar_c rfl (er_v (i := 0) (a := p0) (e := eI) (by rfl)) (ar_c rfl (er_v (i := 1) (a := p1) (e := (eL eI)) (by rfl)) ar_n)) rfl rfl (t_look_way p0 p1)) fun v2 => (bg_set (i := 2) (by decide) rfl (er_p2 (er_lstp (lr_cp rfl er_i lr_n) (Nat.le_of_ble_eq_true rfl)) (er_p1 (er_v (i := 1) (a := p1) (e := (eL eI)) (by rfl)) o_lenL) o_rep) fun v3 => (bg_for (Lh := fun (v5 : (List Int)) => [(0, .sh (eI p0)), (1, .sh ((eL eI) p1)), (2, .fr ((eL eI) v5))]) (S := (List Int)) (ir_enp rfl (er_v (i := 1) (a := p1) (e := (eL eI)) (by rfl))) (tg_2 (m := 5) (by decide) (by decide) ) (sub_c (by rfl) (sub_c (by rfl) (sub_c (by rfl) (sub_n)))) (fun v5 v4 => (tb1_undone p0 p1 v5 v4)) fun v12 => (bg_last (bg_ret (er_vf (i := 2) (a := v12) (e := (eL eI)) (by rfl)) fun _ => ⟨_, rfl, rfl⟩)))))))

def B3__law_numbers   (v42 : (List Int) × Int) (v41 : Int) : Re ((List Int) × Int) :=
  (((Re.ok (decide ((0 : Int) < v42.2)) : Re Bool).bind fun v51 => if v51 = true then ((Re.ok (v42.2 % (1013 : Int)) : Re Int).bind fun (v56 : Int) => ((appT v42.1 v56).bind fun v57 => ((Re.ok (v42.2 / (1013 : Int)) : Re Int).bind fun (v58 : Int) => (Re.ok (v57, v58) : Re ((List Int) × Int))))) else (Re.ok (v42.1, v42.2) : Re ((List Int) × Int))).bind fun (v55 : (List Int) × Int) => (Re.ok (v55.1, v55.2) : Re ((List Int) × Int)))
theorem tb3__law_numbers (p0 : (List Int)) (p1 : Int) (v3 : Int) (v33 : Int) (v42 : (List Int) × Int) (v41 : Int) : BG 7 ([(6, Rv.sh (eI v41))] ++ [(0, .sh (eZ p0)), (1, .sh (eI p1)), (2, .fr ((eL eI) v42.1)), (4, .sh (eI v3)), (3, .sh (eI v33)), (5, .sh (eI v42.2))]) (PN 7 (fun (v42 : (List Int) × Int) => [(0, .sh (eZ p0)), (1, .sh (eI p1)), (2, .fr ((eL eI) v42.1)), (4, .sh (eI v3)), (3, .sh (eI v33)), (5, .sh (eI v42.2))])) (B3__law_numbers  v42 v41) L1__law_numbers := by
  unfold B3__law_numbers L1__law_numbers
  exact (bg_last (bg_seq (Lo := fun (v55 : (List Int) × Int) => [(0, .sh (eZ p0)), (1, .sh (eI p1)), (2, .fr ((eL eI) v55.1)), (4, .sh (eI v3)), (3, .sh (eI v33)), (6, .sh (eI v41)), (5, .sh (eI v55.2))]) (bg_if (tr_v (er_p2 (er_v (i := 5) (a := v42.2) (e := eI) (by rfl)) er_i o_gt)) (bg_app (i := 2) (xs := v42.1) (e := eI) (by rfl) rfl (er_p2 (er_v (i := 5) (a := v42.2) (e := eI) (by rfl)) er_i (o_mod (by decide))) fun v57 => (bg_last (bg_set (i := 5) (by decide) rfl (er_p2 (er_v (i := 5) (a := v42.2) (e := eI) (by rfl)) er_i (o_div (by decide))) fun v58 => (bg_end (sub_c (by rfl) (sub_c (by rfl) (sub_c (by rfl) (sub_c (by rfl) (sub_c (by rfl) (sub_c (by rfl) (sub_c (by rfl) (sub_n)))))))))))) (bg_end (sub_c (by rfl) (sub_c (by rfl) (sub_c (by rfl) (sub_c (by rfl) (sub_c (by rfl) (sub_c (by rfl) (sub_c (by rfl) (sub_n)))))))))) fun v55 => (bg_end (sub_c (by rfl) (sub_c (by rfl) (sub_c (by rfl) (sub_c (by rfl) (sub_c (by rfl) (sub_c (by rfl) (sub_n))))))))))
def B2__law_numbers   (v4 : (List Int) × Int) (v3 : Int) : Re ((List Int) × Int) :=
  ((Re.ok ((((v4.2 * (40692 : Int)) + (v3 % (999961 : Int))) + (31 : Int)) % (2147483399 : Int)) : Re Int).bind fun (v33 : Int) => ((Re.ok (v3 - ((10 : Int) ^ ((18 : Int)).toNat)) : Re Int).bind fun (v34 : Int) => (((Re.ok (decide (v34 < (0 : Int))) : Re Bool).bind fun v35 => if v35 = true then ((Re.ok (v3 % (9967 : Int)) : Re Int).bind fun (v39 : Int) => ((appT v4.1 v39).bind fun v40 => (Re.ok v40 : Re ((List Int))))) else (Re.ok v4.1 : Re ((List Int)))).bind fun (v38 : (List Int)) => ((rngT (0 : Int) (60 : Int)).bind fun v60 => (forT (B3__law_numbers ) v60 (v38, v34)).bind fun (v59 : (List Int) × Int) => (Re.ok (v59.1, v33) : Re ((List Int) × Int))))))
theorem tb2__law_numbers (p0 : (List Int)) (p1 : Int)  (v4 : (List Int) × Int) (v3 : Int) : BG 7 ([(4, Rv.sh (eI v3))] ++ [(0, .sh (eZ p0)), (1, .sh (eI p1)), (2, .fr ((eL eI) v4.1)), (3, .sh (eI v4.2))]) (PN 7 (fun (v4 : (List Int) × Int) => [(0, .sh (eZ p0)), (1, .sh (eI p1)), (2, .fr ((eL eI) v4.1)), (3, .sh (eI v4.2))])) (B2__law_numbers  v4 v3) L2__law_numbers := by
  unfold B2__law_numbers L2__law_numbers
  exact (bg_set (i := 3) (by decide) rfl (er_p2 (er_p2 (er_p2 (er_p2 (er_v (i := 3) (a := v4.2) (e := eI) (by rfl)) er_i (o_mul_r (by decide))) (er_p2 (er_v (i := 4) (a := v3) (e := eI) (by rfl)) er_i (o_mod (by decide))) o_add) er_i o_add) er_i (o_mod (by decide))) fun v33 => (bg_set (i := 5) (by decide) rfl (er_p2 (er_v (i := 4) (a := v3) (e := eI) (by rfl)) (er_p2 er_i er_i (o_pow (by decide))) o_sub) fun v34 => (bg_seq (Lo := fun (v38 : (List Int)) => [(0, .sh (eZ p0)), (1, .sh (eI p1)), (2, .fr ((eL eI) v38)), (4, .sh (eI v3)), (3, .sh (eI v33)), (5, .sh (eI v34))]) (bg_if (tr_v (er_p2 (er_v (i := 5) (a := v34) (e := eI) (by rfl)) er_i o_lt)) (bg_last (bg_app (i := 2) (xs := v4.1) (e := eI) (by rfl) rfl (er_p2 (er_v (i := 4) (a := v3) (e := eI) (by rfl)) er_i (o_mod (by decide))) fun v40 => (bg_end (sub_c (by rfl) (sub_c (by rfl) (sub_c (by rfl) (sub_c (by rfl) (sub_c (by rfl) (sub_c (by rfl) (sub_n)))))))))) (bg_end (sub_c (by rfl) (sub_c (by rfl) (sub_c (by rfl) (sub_c (by rfl) (sub_c (by rfl) (sub_c (by rfl) (sub_n))))))))) fun v38 => (bg_last (bg_for (Lh := fun (v42 : (List Int) × Int) => [(0, .sh (eZ p0)), (1, .sh (eI p1)), (2, .fr ((eL eI) v42.1)), (4, .sh (eI v3)), (3, .sh (eI v33)), (5, .sh (eI v42.2))]) (S := (List Int) × Int) (ir_r1p er_i) (tg_1 (m := 7) (by decide)) (sub_c (by rfl) (sub_c (by rfl) (sub_c (by rfl) (sub_c (by rfl) (sub_c (by rfl) (sub_c (by rfl) (sub_n))))))) (fun v42 v41 => (tb3__law_numbers p0 p1 v3 v33 v42 v41)) fun v59 => (bg_end (sub_c (by rfl) (sub_c (by rfl) (sub_c (by rfl) (sub_c (by rfl) (sub_n)))))))))))
def B4__law_numbers   (v63 : (List Int) × Int) : Re ((List Int) × Int) :=
  ((((((mulT v63.2 v63.2).bind fun v71 => Re.ok (v71 + ((48271 : Int) * v63.2))).bind fun v72 => Re.ok (v72 + ((17 : Int) * ((v63.1).length : Int)))).bind fun v73 => Re.ok (v73 + (5 : Int))).bind fun v74 => Re.ok (v74 % (2147483629 : Int))).bind fun (v75 : Int) => ((Re.ok ((v75 / (1019 : Int)) % (9967 : Int)) : Re Int).bind fun (v76 : Int) => ((appT v63.1 v76).bind fun v77 => (Re.ok (v77, v75) : Re ((List Int) × Int)))))
theorem tb4__law_numbers (p0 : (List Int)) (p1 : Int)  (v63 : (List Int) × Int) : BG 7 ([(0, .sh (eZ p0)), (1, .sh (eI p1)), (2, .fr ((eL eI) v63.1)), (3, .sh (eI v63.2))]) (PN 7 (fun (v63 : (List Int) × Int) => [(0, .sh (eZ p0)), (1, .sh (eI p1)), (2, .fr ((eL eI) v63.1)), (3, .sh (eI v63.2))])) (B4__law_numbers  v63) L3__law_numbers := by
  unfold B4__law_numbers L3__law_numbers
  exact (bg_set (i := 3) (by decide) rfl (er_pr (er_pr (er_pr (er_pr (er_p2 (er_v (i := 3) (a := v63.2) (e := eI) (by rfl)) (er_v (i := 3) (a := v63.2) (e := eI) (by rfl)) o_mul) (er_p2 er_i (er_v (i := 3) (a := v63.2) (e := eI) (by rfl)) (o_mul_l (by decide))) fun _ => o_add) (er_p2 er_i (er_p1 (er_vf (i := 2) (a := v63.1) (e := (eL eI)) (by rfl)) o_lenL) (o_mul_l (by decide))) fun _ => o_add) er_i fun _ => o_add) er_i fun _ => (o_mod (by decide))) fun v75 => (bg_last (bg_app (i := 2) (xs := v63.1) (e := eI) (by rfl) rfl (er_p2 (er_p2 (er_v (i := 3) (a := v75) (e := eI) (by rfl)) er_i (o_div (by decide))) er_i (o_mod (by decide))) fun v77 => (bg_end (sub_c (by rfl) (sub_c (by rfl) (sub_c (by rfl) (sub_c (by rfl) (sub_n)))))))))
def C4__law_numbers (p1 : Int)  (v63 : (List Int) × Int) : Re Bool :=
  (Re.ok (decide (((v63.1).length : Int) < p1)) : Re Bool)
def T__law_numbers (p0 : (List Int)) (p1 : Int) : Re (List Int) :=
  ((Re.ok ([] : (List Int)) : Re (List Int)).bind fun (v1 : (List Int)) => ((Re.ok (71 : Int) : Re Int).bind fun (v2 : Int) => ((Re.ok (cut p0 none (some (63 : Int))) : Re (List Int)).bind fun v81 => (forT (B2__law_numbers ) v81 (v1, v2)).bind fun (v61 : (List Int) × Int) => ((whT (C4__law_numbers p1) (B4__law_numbers ) 1000 (v61.1, v61.2)).bind fun (v78 : (List Int) × Int) => ((Re.ok (cut v78.1 none (some p1)) : Re (List Int)).bind fun (v79 : (List Int)) => Re.ok v79)))))
theorem t__law_numbers (p0 : (List Int)) (p1 : Int) : RE1 .fr (eL eI) (T__law_numbers p0 p1) (F__law_numbers [eZ p0, eI p1]) := fn_t rfl (by decide) rfl (n := 2) (mm := 7) (by
  unfold T__law_numbers b__law_numbers
  exact (bg_set (i := 2) (by decide) rfl (er_lstp (e := eI) lr_n (Nat.zero_le _)) fun v1 => (bg_set (i := 3) (by decide) rfl er_i fun v2 => (bg_for (Lh := fun (v4 : (List Int) × Int) => [(0, .sh (eZ p0)), (1, .sh (eI p1)), (2, .fr ((eL eI) v4.1)), (3, .sh (eI v4.2))]) (S := (List Int) × Int) (ir_a rfl (er_slp (er_v (i := 0) (a := p0) (e := eZ) (by rfl)) or_n (or_ip er_i) o_slZ)) (tg_1 (m := 7) (by decide)) (sub_c (by rfl) (sub_c (by rfl) (sub_c (by rfl) (sub_c (by rfl) (sub_n))))) (fun v4 v3 => (tb2__law_numbers p0 p1 v4 v3)) fun v61 => (bg_wh (Lh := fun (v63 : (List Int) × Int) => [(0, .sh (eZ p0)), (1, .sh (eI p1)), (2, .fr ((eL eI) v63.1)), (3, .sh (eI v63.2))]) (S := (List Int) × Int) (sub_c (by rfl) (sub_c (by rfl) (sub_c (by rfl) (sub_c (by rfl) (sub_n))))) (fun v63 => (tr_v (er_p2 (er_p1 (er_vf (i := 2) (a := v63.1) (e := (eL eI)) (by rfl)) o_lenL) (er_v (i := 1) (a := p1) (e := eI) (by rfl)) o_lt))) (fun v63 => (tb4__law_numbers p0 p1 v63)) fun v78 => (bg_last (bg_ret (er_slp (er_vf (i := 2) (a := v78.1) (e := (eL eI)) (by rfl)) or_n (or_ip (er_v (i := 1) (a := p1) (e := eI) (by rfl))) o_slL) fun _ => ⟨_, rfl, rfl⟩)))))))

def T__law_spots (p0 : Int) : Re Int :=
  ((ixT ([(2 : Int), (3 : Int), (4 : Int), (5 : Int), (6 : Int), (2 : Int), (3 : Int)] : List Int) (p0 % (7 : Int))).bind fun (v1 : Int) => Re.ok v1)
theorem t__law_spots (p0 : Int) : RE1 .sh eI (T__law_spots p0) (F__law_spots [eI p0]) := fn_t rfl (by decide) rfl (n := 1) (mm := 1) (by
  unfold T__law_spots b__law_spots
  exact (bg_last (bg_ret (er_p2 (er_lstp (lr_cp rfl er_i (lr_cp rfl er_i (lr_cp rfl er_i (lr_cp rfl er_i (lr_cp rfl er_i (lr_cp rfl er_i (lr_cp rfl er_i lr_n))))))) (Nat.le_of_ble_eq_true rfl)) (er_p2 (er_v (i := 0) (a := p0) (e := eI) (by rfl)) er_i (o_mod (by decide))) o_ix) fun _ => ⟨_, rfl, rfl⟩)))

def T__law_any_spots (p0 : Int) : Re Int :=
  ((Re.ok (decide ((p0 % (8 : Int)) < (6 : Int))) : Re Bool).bind fun v1 => if v1 = true then ((T__law_spots (p0 / (8 : Int))).bind fun (v2 : Int) => Re.ok v2) else ((ixT ([(0 : Int), (1 : Int), (7 : Int), (8 : Int), (-(2 : Int)), ((10 : Int) ^ ((40 : Int)).toNat), (-((10 : Int) ^ ((40 : Int)).toNat))] : List Int) ((p0 / (8 : Int)) % (7 : Int))).bind fun (v3 : Int) => Re.ok v3))
theorem t__law_any_spots (p0 : Int) : RE1 .sh eI (T__law_any_spots p0) (F__law_any_spots [eI p0]) := fn_t rfl (by decide) rfl (n := 1) (mm := 1) (by
  unfold T__law_any_spots b__law_any_spots
  exact (bg_ifD (tr_v (er_p2 (er_p2 (er_v (i := 0) (a := p0) (e := eI) (by rfl)) er_i (o_mod (by decide))) er_i o_lt)) (bg_ret (er_callp (ar_c rfl (er_p2 (er_v (i := 0) (a := p0) (e := eI) (by rfl)) er_i (o_div (by decide))) ar_n) rfl rfl (t__law_spots (p0 / (8 : Int)))) fun _ => ⟨_, rfl, rfl⟩) (bg_nil (bg_last (bg_ret (er_p2 (er_lstp (lr_cp rfl er_i (lr_cp rfl er_i (lr_cp rfl er_i (lr_cp rfl er_i (lr_cp rfl (er_p1 er_i o_neg) (lr_cp rfl (er_p2 er_i er_i (o_pow (by decide))) (lr_cp rfl (er_p1 (er_p2 er_i er_i (o_pow (by decide))) o_neg) lr_n))))))) (Nat.le_of_ble_eq_true rfl)) (er_p2 (er_p2 (er_v (i := 0) (a := p0) (e := eI) (by rfl)) er_i (o_div (by decide))) er_i (o_mod (by decide))) o_ix) fun _ => ⟨_, rfl, rfl⟩)))))

def B1__law_mixed (p0 : (List Int))  (v3 : (List Int)) (v2 : Int) : Re ((List Int)) :=
  (((ixT p0 v2).bind fun v8 => (modT v8 (v2 + (1 : Int)))).bind fun (v9 : Int) => ((Re.ok v2 : Re Int).bind fun (v10 : Int) => ((putT v3 v9 v10).bind fun v11 => (Re.ok v11 : Re ((List Int))))))
theorem tb1__law_mixed (p0 : (List Int)) (p1 : Int)  (v3 : (List Int)) (v2 : Int) : BG 4 ([(3, Rv.sh (eI v2))] ++ [(0, .sh ((eL eI) p0)), (1, .sh (eI p1)), (2, .fr ((eL eI) v3))]) (PN 4 (fun (v3 : (List Int)) => [(0, .sh ((eL eI) p0)), (1, .sh (eI p1)), (2, .fr ((eL eI) v3))])) (B1__law_mixed p0 v3 v2) L1__law_mixed := by
  unfold B1__law_mixed L1__law_mixed
  exact (bg_last (bg_ins (i := 2) (xs := v3) (e := eI) (by rfl) (er_pr (er_p2 (er_v (i := 0) (a := p0) (e := (eL eI)) (by rfl)) (er_v (i := 3) (a := v2) (e := eI) (by rfl)) o_ix) (er_p2 (er_v (i := 3) (a := v2) (e := eI) (by rfl)) er_i o_add) fun _ => o_modT) rfl (er_v (i := 3) (a := v2) (e := eI) (by rfl)) fun v11 => (bg_end (sub_c (by rfl) (sub_c (by rfl) (sub_c (by rfl) (sub_n)))))))
def T__law_mixed (p0 : (List Int)) (p1 : Int) : Re (List Int) :=
  ((Re.ok ([] : (List Int)) : Re (List Int)).bind fun (v1 : (List Int)) => ((rngT (0 : Int) p1).bind fun v14 => (forT (B1__law_mixed p0) v14 v1).bind fun (v12 : (List Int)) => ((Re.ok v12 : Re (List Int)).bind fun (v13 : (List Int)) => Re.ok v13)))
theorem t__law_mixed (p0 : (List Int)) (p1 : Int) : RE1 .fr (eL eI) (T__law_mixed p0 p1) (F__law_mixed [(eL eI) p0, eI p1]) := fn_t rfl (by decide) rfl (n := 2) (mm := 4) (by
  unfold T__law_mixed b__law_mixed
  exact (bg_set (i := 2) (by decide) rfl (er_lstp (e := eI) lr_n (Nat.zero_le _)) fun v1 => (bg_for (Lh := fun (v3 : (List Int)) => [(0, .sh ((eL eI) p0)), (1, .sh (eI p1)), (2, .fr ((eL eI) v3))]) (S := (List Int)) (ir_r1p (er_v (i := 1) (a := p1) (e := eI) (by rfl))) (tg_1 (m := 4) (by decide)) (sub_c (by rfl) (sub_c (by rfl) (sub_c (by rfl) (sub_n)))) (fun v3 v2 => (tb1__law_mixed p0 p1 v3 v2)) fun v12 => (bg_last (bg_ret (er_vf (i := 2) (a := v12) (e := (eL eI)) (by rfl)) fun _ => ⟨_, rfl, rfl⟩)))))

def T__law_bent (p0 : (List Int)) (p1 : (List Int)) : Re (List Int) :=
  (((ixT p1 (0 : Int)).bind fun v1 => (modT v1 ((p0).length : Int))).bind fun (v2 : Int) => (((((Re.ok (-(1 : Int)) : Re Int).bind fun v11 => ((Re.ok ((p0).length : Int) : Re Int).bind fun v9 => ((ixT p0 (0 : Int)).bind fun v7 => ((Re.ok ((10 : Int) ^ ((40 : Int)).toNat) : Re Int).bind fun v5 => ((ixT p0 (-(1 : Int))).bind fun v3 => (Re.ok [] : Re (List Int)).bind fun v4 => Re.ok (v3 :: v4)).bind fun v6 => Re.ok (v5 :: v6)).bind fun v8 => Re.ok (v7 :: v8)).bind fun v10 => Re.ok (v9 :: v10)).bind fun v12 => Re.ok (v11 :: v12)).bind lcP).bind fun v14 => ((ixT p1 (1 : Int)).bind fun v13 => Re.ok (v13 % (5 : Int))).bind fun v15 => (ixT v14 v15)).bind fun (v16 : Int) => (((((Re.ok p0 : Re (List Int)).bind fun v28 => ((Re.ok p0 : Re (List Int)).bind fun v26 => (((catT (cut p0 none (some v2)) ([v16] : List Int)).bind fun v17 => (catT v17 (cut p0 (some (v2 + (1 : Int))) none))).bind fun v24 => ((catT (cut p0 none (some v2)) (cut p0 (some (v2 + (1 : Int))) none)).bind fun v22 => ((catT p0 ([v16] : List Int)).bind fun v20 => ((Re.ok (p0).reverse : Re (List Int)).bind fun v18 => (Re.ok [] : Re (List (List Int))).bind fun v19 => Re.ok (v18 :: v19)).bind fun v21 => Re.ok (v20 :: v21)).bind fun v23 => Re.ok (v22 :: v23)).bind fun v25 => Re.ok (v24 :: v25)).bind fun v27 => Re.ok (v26 :: v27)).bind fun v29 => Re.ok (v28 :: v29)).bind lcP).bind fun v31 => ((ixT p1 (2 : Int)).bind fun v30 => Re.ok (v30 % (6 : Int))).bind fun v32 => (ixT v31 v32)).bind fun (v33 : (List Int)) => Re.ok v33)))
theorem t__law_bent (p0 : (List Int)) (p1 : (List Int)) : RE1 .sh (eL eI) (T__law_bent p0 p1) (F__law_bent [(eL eI) p0, (eL eI) p1]) := fn_t rfl (by decide) rfl (n := 2) (mm := 4) (by
  unfold T__law_bent b__law_bent
  exact (bg_set (i := 2) (by decide) rfl (er_pr (er_p2 (er_v (i := 1) (a := p1) (e := (eL eI)) (by rfl)) er_i o_ix) (er_p1 (er_v (i := 0) (a := p0) (e := (eL eI)) (by rfl)) o_lenL) fun _ => o_modT) fun v2 => (bg_set (i := 3) (by decide) rfl (er_2 (er_lst (lr_c rfl (er_p1 er_i o_neg) (lr_c rfl (er_p1 (er_v (i := 0) (a := p0) (e := (eL eI)) (by rfl)) o_lenL) (lr_c rfl (er_p2 (er_v (i := 0) (a := p0) (e := (eL eI)) (by rfl)) er_i o_ix) (lr_c rfl (er_p2 er_i er_i (o_pow (by decide))) (lr_c rfl (er_p2 (er_v (i := 0) (a := p0) (e := (eL eI)) (by rfl)) (er_p1 er_i o_neg) o_ix) lr_n)))))) (er_pr (er_p2 (er_v (i := 1) (a := p1) (e := (eL eI)) (by rfl)) er_i o_ix) er_i fun _ => (o_mod (by decide))) fun _ _ => o_ix) fun v16 => (bg_frz (bg_last (bg_ret (er_2 (er_lst (lr_c rfl (er_v (i := 0) (a := p0) (e := (eL eI)) (by rfl)) (lr_c rfl (er_v (i := 0) (a := p0) (e := (eL eI)) (by rfl)) (lr_c rfl (er_pr (er_p2 (er_slp (er_v (i := 0) (a := p0) (e := (eL eI)) (by rfl)) or_n (or_ip (er_v (i := 2) (a := v2) (e := eI) (by rfl))) o_slL) (er_lstp (lr_cp rfl (er_v (i := 3) (a := v16) (e := eI) (by rfl)) lr_n) (Nat.le_of_ble_eq_true rfl)) o_addL) (er_slp (er_v (i := 0) (a := p0) (e := (eL eI)) (by rfl)) (or_ip (er_p2 (er_v (i := 2) (a := v2) (e := eI) (by rfl)) er_i o_add)) or_n o_slL) fun _ => o_addL) (lr_c rfl (er_p2 (er_slp (er_v (i := 0) (a := p0) (e := (eL eI)) (by rfl)) or_n (or_ip (er_v (i := 2) (a := v2) (e := eI) (by rfl))) o_slL) (er_slp (er_v (i := 0) (a := p0) (e := (eL eI)) (by rfl)) (or_ip (er_p2 (er_v (i := 2) (a := v2) (e := eI) (by rfl)) er_i o_add)) or_n o_slL) o_addL) (lr_c rfl (er_p2 (er_v (i := 0) (a := p0) (e := (eL eI)) (by rfl)) (er_lstp (lr_cp rfl (er_v (i := 3) (a := v16) (e := eI) (by rfl)) lr_n) (Nat.le_of_ble_eq_true rfl)) o_addL) (lr_c rfl (er_p1 (er_v (i := 0) (a := p0) (e := (eL eI)) (by rfl)) o_rev) lr_n))))))) (er_pr (er_p2 (er_v (i := 1) (a := p1) (e := (eL eI)) (by rfl)) er_i o_ix) er_i fun _ => (o_mod (by decide))) fun _ _ => o_ix) fun _ => ⟨_, rfl, rfl⟩))))))

def B1_law  (v1 : (List Int)) (v3 : Unit) (v2 : Int) : Re (Unit) :=
  ((Re.ok (cut v1 (some ((40 : Int) * v2)) (some (((40 : Int) * v2) + (40 : Int)))) : Re (List Int)).bind fun (v136 : (List Int)) => (((ixT v136 (0 : Int)).bind fun v137 => T__law_any_spots v137).bind fun (v138 : Int) => (((((ixT v136 (0 : Int)).bind fun v139 => Re.ok (v139 / (8 : Int))).bind fun v140 => T__law_spots v140).bind fun v141 => Re.ok ((2 : Int) * v141)).bind fun (v142 : Int) => (((T__law_mixed (cut v136 (some (1 : Int)) none) v142).bind fun v143 => ((Re.ok (cut v136 (some (14 : Int)) none) : Re (List Int)).bind fun v144 => T__law_bent v143 v144)).bind fun (v145 : (List Int)) => (((T__law_mixed (cut v136 (some (18 : Int)) none) v142).bind fun v146 => ((Re.ok (cut v136 (some (31 : Int)) none) : Re (List Int)).bind fun v147 => T__law_bent v146 v147)).bind fun (v148 : (List Int)) => ((Re.ok ([v145, v148] : List (List Int)) : Re (List (List Int))).bind fun (v149 : (List (List Int))) => (((Re.ok v149 : Re (List (List Int))).bind fun v152 => lcM (mapT (fun (v150 : (List Int)) => ((lrX ((2 : Int) * (if (6 : Int) < v138 then (6 : Int) else v138))).bind fun v151 => Re.ok (!decide ((sortI v150) = v151)))) v152)).bind fun (v153 : (List Bool)) => ((repT ([((none : (Option (List Int))), ("no BadSpots" : Str))] : List ((Option (List Int)) × Str)) (3 : Int)).bind fun (v154 : (List ((Option (List Int)) × Str))) => (((Re.ok ((decide ((2 : Int) ≤ v138)) && (decide (v138 ≤ (6 : Int)))) : Re Bool).bind fun v155 => if v155 = true then ((((((lrT 0 ((2 : Int) * v138)).bind fun v204 => Re.ok (some v204)).bind fun v205 => ((Re.ok ("" : Str) : Re Str).bind fun v206 => Re.ok (v205, v206))).bind fun v211 => ((Re.ok ((none : (Option (List Int))), ("no BadWay" : Str)) : Re ((Option (List Int)) × Str)).bind fun v209 => ((Re.ok ((none : (Option (List Int))), ("no BadWay" : Str)) : Re ((Option (List Int)) × Str)).bind fun v207 => (Re.ok [] : Re (List ((Option (List Int)) × Str))).bind fun v208 => Re.ok (v207 :: v208)).bind fun v210 => Re.ok (v209 :: v210)).bind fun v212 => Re.ok (v211 :: v212)).bind lcP).bind fun (v213 : (List ((Option (List Int)) × Str))) => ((((ixT v153 (0 : Int)).bind fun v214 => Re.ok (!v214)).bind fun v215 => if v215 = true then (((((rngT (0 : Int) ((2 : Int) * v138)).bind fun v226 => lcM (mapT (fun (v225 : Int) => (idxT v145 v225)) v226)).bind fun v227 => Re.ok (some v227)).bind fun v228 => ((Re.ok ("" : Str) : Re Str).bind fun v229 => Re.ok (v228, v229))).bind fun (v230 : ((Option (List Int)) × Str)) => ((nxT (Re.ok (1 : Int) : Re Int)).bind fun (v231 : Int) => (setT v213 v231 v230).bind fun v232 => (Re.ok v232 : Re ((List ((Option (List Int)) × Str)))))) else (Re.ok v213 : Re ((List ((Option (List Int)) × Str))))).bind fun (v224 : (List ((Option (List Int)) × Str))) => (((Re.ok (!decide (true ∈ v153)) : Re Bool).bind fun v233 => if v233 = true then (((((Re.ok v145 : Re (List Int)).bind fun v244 => lcM (mapT (fun (v243 : Int) => (ixT v148 v243)) v244)).bind fun v245 => Re.ok (some v245)).bind fun v246 => ((Re.ok ("" : Str) : Re Str).bind fun v247 => Re.ok (v246, v247))).bind fun (v248 : ((Option (List Int)) × Str)) => ((nxT (Re.ok (2 : Int) : Re Int)).bind fun (v249 : Int) => (setT v224 v249 v248).bind fun v250 => (Re.ok v250 : Re ((List ((Option (List Int)) × Str)))))) else (Re.ok v224 : Re ((List ((Option (List Int)) × Str))))).bind fun (v242 : (List ((Option (List Int)) × Str))) => (Re.ok v242 : Re ((List ((Option (List Int)) × Str))))))) else (Re.ok v154 : Re ((List ((Option (List Int)) × Str))))).bind fun (v203 : (List ((Option (List Int)) × Str))) => ((((trT xL (T_still v138)).bind fun v251 => (Re.ok [] : Re (List ((Option (List Int)) × Str))).bind fun v252 => Re.ok (v251 :: v252)).bind lcP).bind fun (v253 : (List ((Option (List Int)) × Str))) => ((trT xL ((Re.ok v138 : Re Int).bind fun v254 => ((ixT v149 (0 : Int)).bind fun v255 => T_undone v254 v255))).bind fun (v256 : ((Option (List Int)) × Str)) => ((appT v253 v256).bind fun v257 => ((trT xL ((Re.ok v138 : Re Int).bind fun v258 => ((ixT v149 (0 : Int)).bind fun v259 => ((ixT v149 (1 : Int)).bind fun v260 => T_then v258 v259 v260)))).bind fun (v261 : ((Option (List Int)) × Str)) => ((appT v257 v261).bind fun v262 => ((((nxT (nxT (sameT (eL (eP2 (eO (eL eI)) eS)) v262 v203))).bind fun v265 => Re.ok (!v265)).bind fun v266 => if v266 = true then Re.ok true else (Re.ok (!decide (v149 = ([v145, v148] : List (List Int)))) : Re Bool)).bind fun v267 => if v267 = true then Re.bad else (Re.ok () : Re (Unit)))))))))))))))))
theorem tb1_law (p0 : (List Int)) (v1 : (List Int)) (v3 : Unit) (v2 : Int) : BG 14 ([(2, Rv.sh (eI v2))] ++ [(0, .sh (eZ p0)), (1, .fr ((eL eI) v1))]) (PN 14 (fun (v3 : Unit) => [(0, .sh (eZ p0)), (1, .fr ((eL eI) v1))])) (B1_law v1 v3 v2) L1_law := by
  unfold B1_law L1_law
  exact (bg_set (i := 3) (by decide) rfl (er_slp (er_vf (i := 1) (a := v1) (e := (eL eI)) (by rfl)) (or_ip (er_p2 er_i (er_v (i := 2) (a := v2) (e := eI) (by rfl)) (o_mul_l (by decide)))) (or_ip (er_p2 (er_p2 er_i (er_v (i := 2) (a := v2) (e := eI) (by rfl)) (o_mul_l (by decide))) er_i o_add)) o_slL) fun v136 => (bg_set (i := 4) (by decide) rfl (er_call (cr_c rfl (er_p2 (er_vf (i := 3) (a := v136) (e := (eL eI)) (by rfl)) er_i o_ix) fun v137 => (cr_n (call_out rfl rfl (t__law_any_spots v137))))) fun v138 => (bg_set (i := 5) (by decide) rfl (er_pl er_i (er_call (cr_c rfl (er_pr (er_p2 (er_vf (i := 3) (a := v136) (e := (eL eI)) (by rfl)) er_i o_ix) er_i fun _ => (o_div (by decide))) fun v140 => (cr_n (call_out rfl rfl (t__law_spots v140))))) fun _ => (o_mul_l (by decide))) fun v142 => (bg_frz (bg_set (i := 6) (by decide) rfl (er_call (cr_c rfl (er_callp (ar_c rfl (er_slp (er_vf (i := 3) (a := v136) (e := (eL eI)) (by rfl)) (or_ip er_i) or_n o_slL) (ar_c rfl (er_v (i := 5) (a := v142) (e := eI) (by rfl)) ar_n)) rfl rfl (t__law_mixed (cut v136 (some (1 : Int)) none) v142)) fun v143 => (cr_c rfl (er_slp (er_vf (i := 3) (a := v136) (e := (eL eI)) (by rfl)) (or_ip er_i) or_n o_slL) fun v144 => (cr_n (call_out rfl rfl (t__law_bent v143 v144)))))) fun v145 => (bg_frz (bg_set (i := 7) (by decide) rfl (er_call (cr_c rfl (er_callp (ar_c rfl (er_slp (er_vf (i := 3) (a := v136) (e := (eL eI)) (by rfl)) (or_ip er_i) or_n o_slL) (ar_c rfl (er_v (i := 5) (a := v142) (e := eI) (by rfl)) ar_n)) rfl rfl (t__law_mixed (cut v136 (some (18 : Int)) none) v142)) fun v146 => (cr_c rfl (er_slp (er_vf (i := 3) (a := v136) (e := (eL eI)) (by rfl)) (or_ip er_i) or_n o_slL) fun v147 => (cr_n (call_out rfl rfl (t__law_bent v146 v147)))))) fun v148 => (bg_set (i := 8) (by decide) rfl (er_lstp (lr_cp rfl (er_p1 (er_v (i := 6) (a := v145) (e := (eL eI)) (by rfl)) o_list) (lr_cp rfl (er_p1 (er_v (i := 7) (a := v148) (e := (eL eI)) (by rfl)) o_list) lr_n)) (Nat.le_of_ble_eq_true rfl)) fun v149 => (bg_frz (bg_set (i := 9) (by decide) rfl (er_lc (ir_a rfl (er_v (i := 8) (a := v149) (e := (eL (eL eI))) (by rfl))) (tc_1 (m := 14) (by decide)) rfl fun v150 => (er_pl (er_p1 (er_v (i := 10) (a := v150) (e := (eL eI)) (by rfl)) o_sort) (er_p1 (er_p2 er_i (er_p2 (er_v (i := 4) (a := v138) (e := eI) (by rfl)) er_i o_min2) (o_mul_l (by decide))) o_lrX) fun _ => (o_ne (eqL (eqI 11))))) fun v153 => (bg_set (i := 11) (by decide) rfl (er_p2 (er_lstp (lr_cp rfl (er_tup2p rfl (er_no (ea := (eL eI))) rfl er_s) lr_n) (Nat.le_of_ble_eq_true rfl)) er_i o_rep) fun v154 => (bg_seq (Lo := fun (v203 : (List ((Option (List Int)) × Str))) => [(0, .sh (eZ p0)), (1, .fr ((eL eI) v1)), (2, .sh (eI v2)), (3, .fr ((eL eI) v136)), (4, .sh (eI v138)), (5, .sh (eI v142)), (6, .sh ((eL eI) v145)), (7, .sh ((eL eI) v148)), (8, .sh ((eL (eL eI)) v149)), (9, .fr ((eL eB) v153)), (11, .fr ((eL (eP2 (eO (eL eI)) eS)) v203))]) (bg_if (tr_v (er_ch er_i (er_v (i := 4) (a := v138) (e := eI) (by rfl)) er_i o_le o_le)) (bg_set (i := 11) (by decide) rfl (er_lst (lr_c rfl (er_tup2 rfl (er_so (er_p1 (er_p2 er_i (er_v (i := 4) (a := v138) (e := eI) (by rfl)) (o_mul_l (by decide))) o_lr1)) rfl er_s) (lr_c rfl (er_tup2p rfl (er_no (ea := (eL eI))) rfl er_s) (lr_c rfl (er_tup2p rfl (er_no (ea := (eL eI))) rfl er_s) lr_n)))) fun v213 => (bg_seq (Lo := fun (v224 : (List ((Option (List Int)) × Str))) => [(0, .sh (eZ p0)), (1, .fr ((eL eI) v1)), (2, .sh (eI v2)), (3, .fr ((eL eI) v136)), (4, .sh (eI v138)), (5, .sh (eI v142)), (6, .sh ((eL eI) v145)), (7, .sh ((eL eI) v148)), (8, .sh ((eL (eL eI)) v149)), (9, .fr ((eL eB) v153)), (11, .fr ((eL (eP2 (eO (eL eI)) eS)) v224))]) (bg_if (tr_not (tr_v (er_p2 (er_vf (i := 9) (a := v153) (e := (eL eB)) (by rfl)) er_i o_ix))) (bg_last (bg_sub1 (i := 11) (xs := v213) (e := (eP2 (eO (eL eI)) eS)) (by rfl) rfl (er_tup2 rfl (er_so (er_lc (ir_r1p (er_p2 er_i (er_v (i := 4) (a := v138) (e := eI) (by rfl)) (o_mul_l (by decide)))) (tc_1 (m := 14) (by decide)) rfl fun v225 => (er_idxp (er_v (i := 6) (a := v145) (e := (eL eI)) (by rfl)) (er_v (i := 12) (a := v225) (e := eI) (by rfl))))) rfl er_s) er_i fun v232 => (bg_end (sub_c (by rfl) (sub_c (by rfl) (sub_c (by rfl) (sub_c (by rfl) (sub_c (by rfl) (sub_c (by rfl) (sub_c (by rfl) (sub_c (by rfl) (sub_c (by rfl) (sub_c (by rfl) (sub_c (by rfl) (sub_n))))))))))))))) (bg_end (sub_c (by rfl) (sub_c (by rfl) (sub_c (by rfl) (sub_c (by rfl) (sub_c (by rfl) (sub_c (by rfl) (sub_c (by rfl) (sub_c (by rfl) (sub_c (by rfl) (sub_c (by rfl) (sub_c (by rfl) (sub_n)))))))))))))) fun v224 => (bg_last (bg_seq (Lo := fun (v242 : (List ((Option (List Int)) × Str))) => [(0, .sh (eZ p0)), (1, .fr ((eL eI) v1)), (2, .sh (eI v2)), (3, .fr ((eL eI) v136)), (4, .sh (eI v138)), (5, .sh (eI v142)), (6, .sh ((eL eI) v145)), (7, .sh ((eL eI) v148)), (8, .sh ((eL (eL eI)) v149)), (9, .fr ((eL eB) v153)), (11, .fr ((eL (eP2 (eO (eL eI)) eS)) v242))]) (bg_if (tr_v (er_p2 er_b (er_vf (i := 9) (a := v153) (e := (eL eB)) (by rfl)) (o_inT (eqB 11) (eqB 12)))) (bg_frz (bg_last (bg_sub1 (i := 11) (xs := v224) (e := (eP2 (eO (eL eI)) eS)) (by rfl) rfl (er_tup2 rfl (er_so (er_lc (ir_a rfl (er_v (i := 6) (a := v145) (e := (eL eI)) (by rfl))) (tc_1 (m := 14) (by decide)) rfl fun v243 => (er_p2 (er_v (i := 7) (a := v148) (e := (eL eI)) (by rfl)) (er_v (i := 12) (a := v243) (e := eI) (by rfl)) o_ix))) rfl er_s) er_i fun v250 => (bg_end (sub_c (by rfl) (sub_c (by rfl) (sub_c (by rfl) (sub_c (by rfl) (sub_c (by rfl) (sub_c (by rfl) (sub_c (by rfl) (sub_c (by rfl) (sub_c (by rfl) (sub_c (by rfl) (sub_c (by rfl) (sub_n)))))))))))))))) (bg_end (sub_c (by rfl) (sub_c (by rfl) (sub_c (by rfl) (sub_c (by rfl) (sub_c (by rfl) (sub_c (by rfl) (sub_c (by rfl) (sub_c (by rfl) (sub_c (by rfl) (sub_c (by rfl) (sub_c (by rfl) (sub_n)))))))))))))) fun v242 => (bg_end (sub_c (by rfl) (sub_c (by rfl) (sub_c (by rfl) (sub_c (by rfl) (sub_c (by rfl) (sub_c (by rfl) (sub_c (by rfl) (sub_c (by rfl) (sub_c (by rfl) (sub_c (by rfl) (sub_c (by rfl) (sub_n))))))))))))))))) (bg_end (sub_c (by rfl) (sub_c (by rfl) (sub_c (by rfl) (sub_c (by rfl) (sub_c (by rfl) (sub_c (by rfl) (sub_c (by rfl) (sub_c (by rfl) (sub_c (by rfl) (sub_c (by rfl) (sub_c (by rfl) (sub_n)))))))))))))) fun v203 => (bg_frz (bg_set (i := 13) (by decide) rfl (er_lst (lr_c rfl (er_tried rfl (er_callp (ar_c rfl (er_v (i := 4) (a := v138) (e := eI) (by rfl)) ar_n) rfl rfl (t_still v138))) lr_n)) fun v253 => (bg_frz (bg_frz (bg_app (i := 13) (xs := v253) (e := (eP2 (eO (eL eI)) eS)) (by rfl) rfl (er_tried rfl (er_call (cr_c rfl (er_v (i := 4) (a := v138) (e := eI) (by rfl)) fun v254 => (cr_c rfl (er_p2 (er_v (i := 8) (a := v149) (e := (eL (eL eI))) (by rfl)) er_i o_ix) fun v255 => (cr_n (call_out rfl rfl (t_undone v254 v255))))))) fun v257 => (bg_frz (bg_frz (bg_app (i := 13) (xs := v257) (e := (eP2 (eO (eL eI)) eS)) (by rfl) rfl (er_tried rfl (er_call (cr_c rfl (er_v (i := 4) (a := v138) (e := eI) (by rfl)) fun v258 => (cr_c rfl (er_p2 (er_v (i := 8) (a := v149) (e := (eL (eL eI))) (by rfl)) er_i o_ix) fun v259 => (cr_c rfl (er_p2 (er_v (i := 8) (a := v149) (e := (eL (eL eI))) (by rfl)) er_i o_ix) fun v260 => (cr_n (call_out rfl rfl (t_then v258 v259 v260)))))))) fun v262 => (bg_frz (bg_frz (bg_last (bg_ifD (tr_or (tr_not (tr_v (er_fz (i := 13) (er_fz (i := 11) (er_callp (ar_c rfl (er_v (i := 13) (a := v262) (e := (eL (eP2 (eO (eL eI)) eS))) (by rfl)) (ar_c rfl (er_v (i := 11) (a := v203) (e := (eL (eP2 (eO (eL eI)) eS))) (by rfl)) ar_n)) rfl rfl (t_same (eL (eP2 (eO (eL eI)) eS)) _ _)))))) (tr_v (er_p2 (er_v (i := 8) (a := v149) (e := (eL (eL eI))) (by rfl)) (er_lstp (lr_cp rfl (er_v (i := 6) (a := v145) (e := (eL eI)) (by rfl)) (lr_cp rfl (er_v (i := 7) (a := v148) (e := (eL eI)) (by rfl)) lr_n)) (Nat.le_of_ble_eq_true rfl)) (o_ne (eqL (eqL (eqI 10))))))) bg_bad (bg_nil (bg_end (sub_c (by rfl) (sub_c (by rfl) (sub_n)))))))))))))))))))))))))))))
def T_law (p0 : (List Int)) : Re Bool :=
  ((T__law_numbers p0 (120 : Int)).bind fun (v1 : (List Int)) => ((rngT (0 : Int) (3 : Int)).bind fun v270 => (forT (B1_law v1) v270 ()).bind fun (v268 : Unit) => ((Re.ok true : Re Bool).bind fun (v269 : Bool) => Re.ok v269)))
theorem t_law (p0 : (List Int)) : RE1 .sh eB (T_law p0) (F_law [eZ p0]) := fn_t rfl (by decide) rfl (n := 1) (mm := 14) (by
  unfold T_law b_law
  exact (bg_set (i := 1) (by decide) rfl (er_callp (ar_c rfl (er_v (i := 0) (a := p0) (e := eZ) (by rfl)) (ar_c rfl er_i ar_n)) rfl rfl (t__law_numbers p0 (120 : Int))) fun v1 => (bg_for (Lh := fun (v3 : Unit) => [(0, .sh (eZ p0)), (1, .fr ((eL eI) v1))]) (S := Unit) (ir_r1p er_i) (tg_1 (m := 14) (by decide)) (sub_c (by rfl) (sub_c (by rfl) (sub_n))) (fun v3 v2 => (tb1_law p0 v1 v3 v2)) fun v268 => (bg_last (bg_ret er_b fun _ => ⟨_, rfl, rfl⟩)))))
end C
end

section
set_option maxRecDepth 100000
set_option maxHeartbeats 1000000
namespace C
open PySem PySem.Spec L2 Ly
open PyProof.Rows hiding St
def Small (row : List Int) : Prop := ∀ x ∈ row, 0 ≤ x ∧ x < 9967
theorem Small.snoc {row : List Int} {x : Int} (h : Small row) (h0 : 0 ≤ x) (h1 : x < 9967) : Small (row ++ [x]) := fun y hy => by
  rcases List.mem_append.mp hy with hy | hy
  · exact h y hy
  · cases List.mem_singleton.mp hy; exact ⟨h0, h1⟩
theorem num_in {row : List Int} {rest c : Int} (k : Nat) (hk : k ≤ 100000) (h1 : row.length ≤ k) (h2 : Small row) : ∃ row' rest', B3__law_numbers (row, rest) c = .ok (row', rest') ∧ row'.length ≤ k + 1 ∧ Small row' := by
  unfold B3__law_numbers
  by_cases hr : 0 < rest
  · have hl : row.length < 16777216 := by omega
    exact ⟨row ++ [rest % 1013], rest / 1013, by simp [hr, appT_ok hl], by simp; omega, h2.snoc (by omega) (by omega)⟩
  · exact ⟨row, rest, by simp [hr], by omega, h2⟩
theorem num_turn {row : List Int} {seed c : Int} (k : Nat) (hk : k ≤ 90000) (h1 : row.length ≤ k) (h2 : Small row) (h3 : 0 ≤ seed) : ∃ row' seed', B2__law_numbers (row, seed) c = .ok (row', seed') ∧ row'.length ≤ k + 61 ∧ Small row' ∧ 0 ≤ seed' ∧ seed' < 2147483629 := by
  have hr : rngT 0 60 = .ok (rangeI 0 60) := rngT_small (by omega) (by omega)
  have key : ∀ (row' : List Int) (rest : Int), row'.length ≤ k + 1 → Small row' → ∃ row2 rest2, forT B3__law_numbers (rangeI 0 60) (row', rest) = .ok (row2, rest2) ∧ row2.length ≤ k + 61 ∧ Small row2 := by
    intro row' rest a1 a2
    obtain ⟨⟨row2, rest2⟩, e, b1, b2⟩ := forT_num (B := B3__law_numbers) (as := rangeI 0 60) (I := fun i s => s.1.length ≤ k + 1 + i ∧ Small s.1) (s := (row', rest)) ⟨by simpa using a1, a2⟩ (fun i hi s hs => by
      obtain ⟨r, t⟩ := s
      have hi : i < 60 := by simpa [rangeI_len] using hi
      obtain ⟨r', t', e, c1, c2⟩ := num_in (rest := t) (c := (rangeI 0 60)[i]) (k + 1 + i) (by omega) hs.1 hs.2
      exact ⟨_, e, c1, c2⟩)
    refine ⟨row2, rest2, e, ?_, b2⟩
    have : (rangeI 0 60).length = 60 := by simp [rangeI_len]
    rw [this] at b1
    exact b1
  unfold B2__law_numbers
  have hn : 0 ≤ (seed * 40692 + c % 999961 + 31) % 2147483399 ∧ (seed * 40692 + c % 999961 + 31) % 2147483399 < 2147483629 := by omega
  by_cases hc : c - 10 ^ 18 < 0
  · have hl : row.length < 16777216 := by omega
    obtain ⟨row2, rest2, e, b1, b2⟩ := key (row ++ [c % 9967]) (c - 10 ^ 18) (by simp; omega) (h2.snoc (by omega) (by omega))
    refine ⟨row2, _, ?_, b1, b2, hn.1, hn.2⟩
    have hc' : c - 1000000000000000000 < 0 := hc
    have e' : forT B3__law_numbers (rangeI 0 60) (row ++ [c % 9967], c - 1000000000000000000) = _ := e
    simp [hc', appT_ok hl, hr, e']
  · obtain ⟨row2, rest2, e, b1, b2⟩ := key row (c - 10 ^ 18) (by omega) h2
    refine ⟨row2, _, ?_, b1, b2, hn.1, hn.2⟩
    have hc' : ¬ c - 1000000000000000000 < 0 := hc
    have e' : forT B3__law_numbers (rangeI 0 60) (row, c - 1000000000000000000) = _ := e
    simp [hc', hr, e']
theorem num_wh (many : Nat) : ∀ (n : Nat) (row : List Int) (seed : Int), many - row.length < n → row.length ≤ 4000 → many ≤ 990 → Small row → 0 ≤ seed → seed < 2147483629 → ∃ row' seed', whT (C4__law_numbers many) B4__law_numbers n (row, seed) = .ok (row', seed') ∧ many ≤ row'.length ∧ Small row'
  | 0, _, _, h, _, _, _, _, _ => absurd h (Nat.not_lt_zero _)
  | n + 1, row, seed, h, h0, hm, h1, h2, h3 => by
    unfold whT
    by_cases hl : row.length < many
    · have e1 : C4__law_numbers many (row, seed) = .ok true := by unfold C4__law_numbers; simp [hl]
      have hs : mulT seed seed = .ok (seed * seed) := mulT_l (by omega)
      have ha : row.length < 16777216 := by omega
      have e2 : B4__law_numbers (row, seed) = .ok (row ++ [(seed * seed + 48271 * seed + 17 * row.length + 5) % 2147483629 / 1019 % 9967], (seed * seed + 48271 * seed + 17 * row.length + 5) % 2147483629) := by
        unfold B4__law_numbers
        simp [hs, appT_ok ha]
      rw [e1, e2]
      simp only [Re.bind_ok, if_true]
      exact num_wh many n _ _ (by simp; omega) (by simp; omega) hm (h1.snoc (Int.emod_nonneg _ (by decide)) (Int.emod_lt_of_pos _ (by decide))) (Int.emod_nonneg _ (by decide)) (Int.emod_lt_of_pos _ (by decide))
    · have e1 : C4__law_numbers many (row, seed) = .ok false := by unfold C4__law_numbers; simp [hl]
      rw [e1]
      exact ⟨row, seed, by simp, by omega, h1⟩
theorem numbers_t (ns : List Int) (hl : ns.length ≤ 63) (many : Nat) (hm : many ≤ 990) : ∃ row : List Int, T__law_numbers ns many = .ok row ∧ row.length = many ∧ Small row := by
  obtain ⟨⟨row, seed⟩, e, h1, h2, h3, h4⟩ := forT_num (B := B2__law_numbers) (as := cut ns none (some 63)) (I := fun i s => s.1.length ≤ 61 * i ∧ Small s.1 ∧ 0 ≤ s.2 ∧ s.2 < 2147483629) (s := ([], 71)) ⟨by simp, fun x hx => (by cases hx), by decide, by decide⟩ (fun i hi s hs => by
    obtain ⟨r, t⟩ := s
    have hi : i < ns.length := Nat.lt_of_lt_of_le hi (cut_length_le ..)
    obtain ⟨r', t', e, c1, c2, c3, c4⟩ := num_turn (c := (cut ns none (some 63))[i]) (61 * i) (by omega) hs.1 hs.2.1 hs.2.2.1
    exact ⟨_, e, by simpa [Nat.mul_add] using c1, c2, c3, c4⟩)
  have hl2 : row.length ≤ 3843 := by
    have := cut_length_le ns none (some 63)
    simp only at h1
    omega
  obtain ⟨row2, seed2, e2, b1, b2⟩ := num_wh many 1000 row seed (by omega) (by omega) hm h2 h3 h4
  refine ⟨row2.take many, ?_, by rw [List.length_take]; omega, fun x hx => b2 x (List.mem_of_mem_take hx)⟩
  unfold T__law_numbers
  simp [e, e2, cut_to b1]
end C
end

section
set_option maxRecDepth 100000
set_option maxHeartbeats 1000000
namespace C
open PySem PySem.Spec L2 Ly
open PyProof.Rows hiding St
theorem ix_some {α : Type} {xs : List α} {z : Int} (h0 : 0 ≤ z) (h1 : z < xs.length) : ∃ a ∈ xs, ixT xs z = .ok a := by
  obtain ⟨i, rfl⟩ := Int.eq_ofNat_of_zero_le h0
  have hi : i < xs.length := by omega
  exact ⟨xs[i], List.getElem_mem hi, ixT_ok rfl (List.getElem?_eq_getElem hi)⟩
theorem ix_row {xs : List Int} (hs : Small xs) {z : Int} (h0 : 0 ≤ z) (h1 : z < xs.length) : ∃ a, ixT xs z = .ok a ∧ 0 ≤ a ∧ a < 9967 := by
  obtain ⟨a, ha, e⟩ := ix_some h0 h1
  exact ⟨a, e, (hs a ha).1, (hs a ha).2⟩
theorem lc0 {α : Type} : lcP ([] : List α) = .ok [] := lcP_ok (Nat.le_of_ble_eq_true rfl)
theorem lc1 {α : Type} (a : α) : lcP [a] = .ok [a] := lcP_ok (Nat.le_of_ble_eq_true rfl)
theorem lc2 {α : Type} (a b : α) : lcP [a, b] = .ok [a, b] := lcP_ok (Nat.le_of_ble_eq_true rfl)
theorem lc3 {α : Type} (a b c : α) : lcP [a, b, c] = .ok [a, b, c] := lcP_ok (Nat.le_of_ble_eq_true rfl)
theorem lc4 {α : Type} (a b c d : α) : lcP [a, b, c, d] = .ok [a, b, c, d] := lcP_ok (Nat.le_of_ble_eq_true rfl)
theorem ix_last {α : Type} {xs : List α} {a : α} (hl : xs.length < 1000) : ixT (xs ++ [a]) (-1) = .ok a := by
  unfold ixT atI
  have : ixN (xs ++ [a]).length (-1) = some xs.length := by
    unfold ixN
    simp
    omega
  rw [this]
  simp
theorem tr_x {α : Type} {x : Str} (h : (xL.contains x) = true) : trT xL (.ex ⟨x, none⟩ : Re α) = .ok (none, "no " ++ x) := by
  unfold trT exW
  dsimp only
  rw [if_pos (List.contains_iff_mem.mp h)]
theorem tr_ok {α : Type} (a : α) : trT xL (.ok a) = .ok (some a, "") := rfl
theorem tr_2 {α : Type} {x w : Str} (h : (xL.contains x) = true) (e : ("no " : Str) ++ x = w) : trT xL (.ex ⟨x, none⟩ : Re α) = .ok (none, w) := by rw [tr_x h, e]
theorem look_spots_x {s : Int} (h : ¬ (2 ≤ s ∧ s ≤ 6)) : T_look_spots s = .ex ⟨"BadSpots", none⟩ := by
  unfold T_look_spots
  have : (decide (s < 2) || decide (6 < s)) = true := by simp only [Bool.or_eq_true, decide_eq_true_eq]; omega
  simp only [this, Re.bind_ok, if_true]
theorem look_spots_o {s : Int} (h : 2 ≤ s ∧ s ≤ 6) : T_look_spots s = .ok () := by
  unfold T_look_spots
  have : (decide (s < 2) || decide (6 < s)) = false := by simp only [Bool.or_eq_false_iff, decide_eq_false_iff_not]; omega
  simp only [this, Re.bind_ok, Bool.false_eq_true, if_false]
theorem spots_r {d : Int} (h : 0 ≤ d) : ∃ s : Int, T__law_spots d = .ok s ∧ 2 ≤ s ∧ s ≤ 6 := by
  obtain ⟨a, ha, e⟩ := ix_some (xs := [(2 : Int), 3, 4, 5, 6, 2, 3]) (z := d % 7) (by omega) (by simp; omega)
  refine ⟨a, by unfold T__law_spots; simp only [e, Re.bind_ok], ?_⟩
  simp only [List.mem_cons, List.not_mem_nil, or_false] at ha
  omega
theorem any_spots_r {d : Int} (h : 0 ≤ d) : ∃ s : Int, T__law_any_spots d = .ok s := by
  unfold T__law_any_spots
  by_cases h6 : d % 8 < 6
  · obtain ⟨s, e, _⟩ := spots_r (d := d / 8) (by omega)
    exact ⟨s, by simp only [h6, e, decide_true, Re.bind_ok, if_true]⟩
  · obtain ⟨a, _, e⟩ := ix_some (xs := [(0 : Int), 1, 7, 8, -2, 10 ^ (40 : Int).toNat, -10 ^ (40 : Int).toNat]) (z := d / 8 % 7) (by omega) (by simp; omega)
    exact ⟨a, by simp only [h6, e, decide_false, Re.bind_ok, Bool.false_eq_true, if_false]⟩
end C
end

section
namespace C
def okl : Nat → Nat → Nat → Bool
  | 0, _, acc => decide (acc ≤ 60)
  | k + 1, s, acc => decide (acc ≤ 60) && (List.range s).all fun x => okl k (s - (x + 1)) (Nat.lcm acc (x + 1))
theorem okl_le : ∀ {k s acc : Nat}, okl k s acc = true → acc ≤ 60
  | 0, _, _, h => by simpa [okl] using h
  | k + 1, s, acc, h => by
    rw [okl, Bool.and_eq_true] at h
    simpa using h.1
theorem okl_sound : ∀ {k s acc : Nat}, okl k s acc = true → ∀ l : List Nat, l.length ≤ k → (∀ x ∈ l, 0 < x) → l.sum ≤ s → l.foldl Nat.lcm acc ≤ 60
  | k, s, acc, h, [], _, _, _ => okl_le h
  | 0, s, acc, h, x :: l, hl, _, _ => absurd hl (by simp)
  | k + 1, s, acc, h, x :: l, hl, hp, hs => by
    rw [okl, Bool.and_eq_true, List.all_eq_true] at h
    have hx := hp x (by simp)
    simp only [List.sum_cons] at hs
    have h2 := h.2 (x - 1) (by rw [List.mem_range]; omega)
    have e : x - 1 + 1 = x := by omega
    rw [e] at h2
    exact okl_sound h2 l (by simpa using hl) (fun y hy => hp y (by simp [hy])) (by omega)
theorem len_le_sum : ∀ l : List Nat, (∀ x ∈ l, 0 < x) → l.length ≤ l.sum
  | [], _ => Nat.le_refl _
  | x :: l, h => by
    have := len_le_sum l fun y hy => h y (by simp [hy])
    have := h x (by simp)
    simp only [List.length_cons, List.sum_cons]
    omega
theorem okl12 : okl 12 12 1 = true := by decide +kernel
theorem lcm60 (l : List Nat) (hp : ∀ x ∈ l, 0 < x) (hs : l.sum ≤ 12) : l.foldl Nat.lcm 1 ≤ 60 := okl_sound okl12 l (Nat.le_trans (len_le_sum l hp) hs) hp hs
def it (f : Nat → Nat) : Nat → Nat → Nat
  | 0, a => a
  | k + 1, a => f (it f k a)
theorem it_add (f : Nat → Nat) (j k a : Nat) : it f (j + k) a = it f j (it f k a) := by
  induction j with
  | zero => rw [Nat.zero_add]; rfl
  | succ j ih => rw [Nat.succ_add, it, ih]; rfl
theorem it_mul (f : Nat → Nat) {L a : Nat} (h : it f L a = a) (q : Nat) : it f (L * q) a = a := by
  induction q with
  | zero => rfl
  | succ q ih => rw [Nat.mul_succ, it_add, h, ih]
def Per (f : Nat → Nat) (a L : Nat) : Prop := 0 < L ∧ it f L a = a ∧ ∀ k, 0 < k → k < L → it f k a ≠ a
theorem Per.dvd {f : Nat → Nat} {a L k : Nat} (h : Per f a L) : it f k a = a ↔ L ∣ k := by
  constructor
  · intro e
    have e2 : it f (k % L) a = a := by
      have : k = k % L + L * (k / L) := (Nat.mod_add_div k L).symm
      rw [this, it_add, it_mul f h.2.1] at e
      exact e
    by_cases hz : k % L = 0
    · exact Nat.dvd_of_mod_eq_zero hz
    · exact absurd e2 (h.2.2 _ (by omega) (Nat.mod_lt _ h.1))
  · rintro ⟨q, rfl⟩
    exact it_mul f h.2.1 q
theorem lcm_foldl_dvd : ∀ (l : List Nat) (acc k : Nat), l.foldl Nat.lcm acc ∣ k ↔ acc ∣ k ∧ ∀ x ∈ l, x ∣ k
  | [], acc, k => by simp
  | x :: l, acc, k => by
    rw [List.foldl_cons, lcm_foldl_dvd l]
    constructor
    · rintro ⟨h1, h2⟩
      exact ⟨Nat.dvd_trans (Nat.dvd_lcm_left _ _) h1, fun y hy => by
        rcases List.mem_cons.mp hy with rfl | hy
        · exact Nat.dvd_trans (Nat.dvd_lcm_right _ _) h1
        · exact h2 y hy⟩
    · rintro ⟨h1, h2⟩
      exact ⟨Nat.lcm_dvd h1 (h2 x (by simp)), fun y hy => h2 y (by simp [hy])⟩
theorem nodup_le : ∀ (n : Nat) (l : List Nat), l.Nodup → (∀ x ∈ l, x < n) → l.length ≤ n
  | 0, l, _, h => by
    cases l with
    | nil => exact Nat.le_refl _
    | cons x l => exact absurd (h x (by simp)) (by omega)
  | n + 1, l, hn, h => by
    by_cases hm : n ∈ l
    · have h1 := nodup_le n (l.erase n) (hn.erase n) fun x hx => by
        have := (hn.mem_erase_iff).mp hx
        have := h x this.2
        omega
      rw [List.length_erase_of_mem hm] at h1
      omega
    · have := nodup_le n l hn fun x hx => by
        have := h x hx
        have : x ≠ n := fun e => hm (e ▸ hx)
        omega
      omega
def its (f : Nat → Nat) (a k : Nat) : List Nat := (List.range k).map fun i => it f i a
theorem its_succ (f : Nat → Nat) (a k : Nat) : its f a (k + 1) = its f a k ++ [it f k a] := by
  unfold its
  rw [List.range_succ, List.map_append]
  rfl
theorem its_length (f : Nat → Nat) (a k : Nat) : (its f a k).length = k := by simp [its]
theorem mem_its {f : Nat → Nat} {a k x : Nat} : x ∈ its f a k ↔ ∃ i, i < k ∧ it f i a = x := by simp [its]
section
variable {n : Nat} {f : Nat → Nat} (hb : ∀ a, a < n → f a < n) (hi : ∀ a b, a < n → b < n → f a = f b → a = b)
include hb
theorem it_lt {a : Nat} (ha : a < n) : ∀ k, it f k a < n
  | 0 => ha
  | k + 1 => hb _ (it_lt ha k)
include hi
theorem it_inj {a b : Nat} (ha : a < n) (hb' : b < n) : ∀ k, it f k a = it f k b → a = b
  | 0, e => e
  | k + 1, e => it_inj ha hb' k (hi _ _ (it_lt hb ha k) (it_lt hb hb' k) e)
theorem ring_end {C : List Nat} {a k : Nat} (ha : a < n) (hC : ∀ x, x < n → f x ∈ C → x ∈ C) (haC : a ∉ C) (hk : 0 < k) (hn : (C ++ its f a k).Nodup) (he : it f k a ∈ C ++ its f a k) : Per f a k := by
  have back : ∀ j, it f j a ∈ C → a ∈ C := by
    intro j
    induction j with
    | zero => exact id
    | succ j ih => exact fun h => ih (hC _ (it_lt hb ha j) h)
  have hd : ∀ i j, i < k → j < k → it f i a = it f j a → i = j := by
    intro i j h1 h2 e
    have hnd := (List.nodup_append.mp hn).2.1
    have e1 : (its f a k)[i]'(by rw [its_length]; exact h1) = (its f a k)[j]'(by rw [its_length]; exact h2) := by simpa [its] using e
    have hp := List.pairwise_iff_getElem.mp hnd
    rcases Nat.lt_trichotomy i j with h | h | h
    · exact absurd e1 (hp i j _ _ h)
    · exact h
    · exact absurd e1.symm (hp j i _ _ h)
  rcases List.mem_append.mp he with h | h
  · exact absurd (back k h) haC
  · obtain ⟨j, hj, e⟩ := mem_its.mp h
    cases j with
    | succ j =>
      cases k with
      | zero => omega
      | succ k =>
        have := hi _ _ (it_lt hb ha j) (it_lt hb ha k) e
        have := hd j k (by omega) (by omega) this
        omega
    | zero =>
      refine ⟨hk, e.symm, fun m h1 h2 h3 => ?_⟩
      have := hd m 0 h2 hk h3
      omega
theorem ring_closed {C : List Nat} {a k : Nat} (ha : a < n) (hC : ∀ x, x < n → f x ∈ C → x ∈ C) (hp : Per f a k) : ∀ x, x < n → f x ∈ C ++ its f a k → x ∈ C ++ its f a k := by
  intro x hx h
  rcases List.mem_append.mp h with h | h
  · exact List.mem_append.mpr (.inl (hC x hx h))
  · refine List.mem_append.mpr (.inr ?_)
    obtain ⟨j, hj, e⟩ := mem_its.mp h
    cases j with
    | succ j => exact mem_its.mpr ⟨j, by omega, hi _ _ (it_lt hb ha j) hx e⟩
    | zero =>
      obtain ⟨h0, h1, _⟩ := hp
      cases k with
      | zero => omega
      | succ k => exact mem_its.mpr ⟨k, by omega, hi _ _ (it_lt hb ha k) hx (h1.trans e)⟩
end
theorem per_mem {f : Nat → Nat} {a k x : Nat} (hp : it f k a = a) (hx : x ∈ its f a k) : it f k x = x := by
  obtain ⟨i, hi, rfl⟩ := mem_its.mp hx
  rw [← it_add, Nat.add_comm, it_add, hp]
end C
end

section
set_option maxRecDepth 100000
set_option maxHeartbeats 1000000
namespace C
open PySem PySem.Spec L2 Ly
open PyProof.Rows hiding St
def toI (l : List Nat) : List Int := l.map fun (x : Nat) => (x : Int)
theorem toI_len (l : List Nat) : (toI l).length = l.length := by simp [toI]
theorem toI_get {R : List Nat} {i : Nat} (h : i < R.length) : (toI R)[i]? = some ((R[i] : Nat) : Int) := by simp [toI, h]
theorem toI_inj {a b : List Nat} (h : toI a = toI b) : a = b := by
  unfold toI at h
  exact List.map_inj_right (fun x y e => by omega) |>.mp h
theorem ixT_nat {α : Type} {xs : List α} {z : Int} {i : Nat} (e : z = (i : Int)) (h : i < xs.length) : ixT xs z = .ok xs[i] := ixT_ok e (List.getElem?_eq_getElem h)
def fw (w : List Nat) (x : Nat) : Nat := w[x]?.getD 0
theorem fw_at {w : List Nat} {x : Nat} (h : x < w.length) : fw w x = w[x] := by unfold fw; rw [List.getElem?_eq_getElem h]; rfl
theorem ixT_w {w : List Nat} {x : Nat} (h : x < w.length) : ixT (toI w) (x : Int) = .ok ((fw w x : Nat) : Int) := by
  rw [ixT_ok rfl (toI_get h), fw_at h]
structure Way (w : List Nat) : Prop where
  lt : ∀ x ∈ w, x < w.length
  nd : w.Nodup
  sz : w.length ≤ 12
theorem Way.hb {w : List Nat} (W : Way w) : ∀ a, a < w.length → fw w a < w.length := fun a h => by rw [fw_at h]; exact W.lt _ (List.getElem_mem h)
theorem Way.hi {w : List Nat} (W : Way w) : ∀ a b, a < w.length → b < w.length → fw w a = fw w b → a = b := fun a b h1 h2 e => by
  rw [fw_at h1, fw_at h2] at e
  have hp := List.pairwise_iff_getElem.mp W.nd
  rcases Nat.lt_trichotomy a b with h | h | h
  · exact absurd e (hp a b _ _ h)
  · exact h
  · exact absurd e.symm (hp b a _ _ h)
theorem nodup_all {n : Nat} {l : List Nat} (h1 : l.Nodup) (h2 : ∀ x ∈ l, x < n) (h3 : l.length = n) {x : Nat} (hx : x < n) : x ∈ l := by
  by_cases hm : x ∈ l
  · exact hm
  · exfalso
    have := nodup_le n (x :: l) (List.nodup_cons.mpr ⟨hm, h1⟩) fun y hy => by
      rcases List.mem_cons.mp hy with rfl | hy
      · exact hx
      · exact h2 y hy
    simp at this
    omega
theorem Way.perm {w : List Nat} (W : Way w) : w.Perm (List.range w.length) := by
  rw [List.perm_ext_iff_of_nodup W.nd List.nodup_range]
  intro x
  rw [List.mem_range]
  exact ⟨W.lt x, nodup_all W.nd W.lt rfl⟩
theorem rangeI_nat (n : Nat) : rangeI 0 (n : Int) = toI (List.range n) := by
  unfold rangeI toI
  have : ((n : Int) - 0).toNat = n := by omega
  rw [this]
  apply List.map_congr_left
  intro i _
  omega
theorem sort_way {w : List Nat} (W : Way w) : sortI (toI w) = rangeI 0 (w.length : Int) := by
  symm
  rw [rangeI_nat]
  refine sortI_is ?_ ?_
  · exact (W.perm.map fun (x : Nat) => (x : Int)).symm
  · unfold toI
    rw [List.pairwise_map]
    exact (List.pairwise_lt_range (n := w.length)).imp fun h => by omega
theorem look_spots_ok {n : Nat} (h2 : 2 ≤ n) (hn : n ≤ 6) : T_look_spots (n : Int) = .ok () := by
  unfold T_look_spots
  have : (decide ((n : Int) < 2) || decide (6 < (n : Int))) = false := by simp; omega
  simp -implicitDefEqProofs only [this, Re.bind_ok, Bool.false_eq_true, if_false]
theorem look_way_ok {n : Nat} (hn : n ≤ 6) {w : List Nat} (W : Way w) (hl : w.length = 2 * n) : T_look_way (n : Int) (toI w) = .ok () := by
  have h := sort_way W
  rw [hl] at h
  have e2 : (2 : Int) * (n : Int) = ((2 * n : Nat) : Int) := by omega
  have hr : lrT 0 ((2 : Int) * n) = .ok (rangeI 0 ((2 * n : Nat) : Int)) := by rw [e2, lrT_small (by omega) (by omega) (by omega)]
  unfold T_look_way
  simp -implicitDefEqProofs only [h, hr, Re.bind_ok, decide_true, Bool.not_true, Bool.false_eq_true, if_false]
theorem spots_t {d : Int} (h : 0 ≤ d) : ∃ n : Nat, 2 ≤ n ∧ n ≤ 6 ∧ T__law_spots d = .ok (n : Int) := by
  have hm : d % 7 = 0 ∨ d % 7 = 1 ∨ d % 7 = 2 ∨ d % 7 = 3 ∨ d % 7 = 4 ∨ d % 7 = 5 ∨ d % 7 = 6 := by omega
  unfold T__law_spots
  rcases hm with e | e | e | e | e | e | e <;> rw [e]
  · exact ⟨2, by omega, by omega, rfl⟩
  · exact ⟨3, by omega, by omega, rfl⟩
  · exact ⟨4, by omega, by omega, rfl⟩
  · exact ⟨5, by omega, by omega, rfl⟩
  · exact ⟨6, by omega, by omega, rfl⟩
  · exact ⟨2, by omega, by omega, rfl⟩
  · exact ⟨3, by omega, by omega, rfl⟩
theorem mixed_t {d : List Int} {m : Nat} (hm : m ≤ 12) (hd : m ≤ d.length) (h0 : ∀ x ∈ d.take m, 0 ≤ x) : ∃ w : List Nat, T__law_mixed d (m : Int) = .ok (toI w) ∧ Way w ∧ w.length = m := by
  have hk : (rangeI 0 (m : Int)).length = m := by simp [rangeI_len]
  obtain ⟨A, e, w, rfl, hl, hlt, hn⟩ := forT_num (B := B1__law_mixed d) (as := rangeI 0 (m : Int)) (I := fun k A => ∃ w : List Nat, A = toI w ∧ w.length = k ∧ (∀ x ∈ w, x < k) ∧ w.Nodup) (s := []) ⟨[], rfl, rfl, fun x hx => (by cases hx), List.nodup_nil⟩ (fun i hi A hA => by
    obtain ⟨w, rfl, hl, hlt, hn⟩ := hA
    have hi : i < m := by rw [hk] at hi; exact hi
    rw [rangeI_get]
    have hz : (0 : Int) + (i : Nat) = (i : Int) := by omega
    rw [hz]
    have hid : i < d.length := by omega
    have hx0 : 0 ≤ d[i] := h0 _ (by
      rw [List.mem_take_iff_getElem]
      exact ⟨i, by omega, rfl⟩)
    have e1 : ixT d (i : Int) = .ok d[i] := ixT_nat rfl hid
    have e2 : modT d[i] ((i : Int) + 1) = .ok (d[i] % ((i : Int) + 1)) := modT_ok (by omega)
    have j0 : 0 ≤ d[i] % ((i : Int) + 1) := Int.emod_nonneg _ (by omega)
    have j1 : d[i] % ((i : Int) + 1) < (i : Int) + 1 := Int.emod_lt_of_pos _ (by omega)
    obtain ⟨j, hj⟩ := Int.eq_ofNat_of_zero_le j0
    have e3 : putT (toI w) (d[i] % ((i : Int) + 1)) (i : Int) = .ok (toI (w.take j ++ [i] ++ w.drop j)) := by
      unfold putT
      rw [hj, if_pos ⟨by rw [toI_len]; omega, by omega, by omega⟩]
      congr 1
      unfold toI
      simp
    refine ⟨_, by unfold B1__law_mixed; simp only [e1, e2, e3, Re.bind_ok], w.take j ++ [i] ++ w.drop j, rfl, ?_, fun x hx => ?_, ?_⟩
    · simp only [List.length_append, List.length_take, List.length_drop, List.length_singleton]; omega
    · simp only [List.mem_append, List.mem_singleton] at hx
      rcases hx with (h | h) | h
      · have := hlt x (List.mem_of_mem_take h); omega
      · omega
      · have := hlt x (List.mem_of_mem_drop h); omega
    · have hni : i ∉ w := fun h => by have := hlt i h; omega
      have hp : (w.take j ++ [i] ++ w.drop j).Perm (i :: w) := by
        have h1 : (w.take j ++ [i] ++ w.drop j).Perm ([i] ++ w.take j ++ w.drop j) := List.perm_append_comm.append_right _
        have h2 : [i] ++ w.take j ++ w.drop j = i :: w := by simp
        rw [h2] at h1
        exact h1
      exact hp.nodup_iff.mpr (List.nodup_cons.mpr ⟨hni, hn⟩))
  rw [hk] at hl hlt
  refine ⟨w, ?_, ⟨fun x hx => by rw [hl]; exact hlt x hx, hn, by omega⟩, hl⟩
  have hr : rngT 0 (m : Int) = .ok (rangeI 0 (m : Int)) := rngT_small (by omega) (by omega)
  unfold T__law_mixed
  simp only [hr, e, Re.bind_ok]
theorem mem_small {row : List Int} (hs : Small row) {j k : Nat} {x : Int} (h : x ∈ ((row.drop j).take k)) : 0 ≤ x ∧ x < 9967 := hs x (List.mem_of_mem_drop (List.mem_of_mem_take h))
end C
end

section
set_option maxRecDepth 100000
set_option maxHeartbeats 1000000
namespace C
open PySem PySem.Spec L2 Ly
open PyProof.Rows hiding St
theorem perm_sortI (y : List Int) : (sortI y).Perm y := List.mergeSort_perm ..
theorem way_of_sort {n : Nat} (hn : n ≤ 6) {y : List Int} (h : sortI y = rangeI 0 ((2 * n : Nat) : Int)) : ∃ w : List Nat, y = toI w ∧ Way w ∧ w.length = 2 * n := by
  have p : (rangeI 0 ((2 * n : Nat) : Int)).Perm y := by rw [← h]; exact perm_sortI y
  have p2 : (toI (List.range (2 * n))).Perm y := by rw [← rangeI_nat]; exact p
  have hy : y = toI (y.map Int.toNat) := by
    unfold toI
    rw [List.map_map]
    have : ∀ x ∈ y, ((fun (x : Nat) => (x : Int)) ∘ Int.toNat) x = id x := fun x hx => by
      obtain ⟨i, _, rfl⟩ := List.mem_map.mp (p2.mem_iff.mpr hx)
      simp
    rw [List.map_congr_left this, List.map_id]
  have p3 : (List.range (2 * n)).Perm (y.map Int.toNat) := by
    have := p2.map Int.toNat
    unfold toI at this
    rw [List.map_map] at this
    have e : (Int.toNat ∘ fun (x : Nat) => (x : Int)) = id := by funext x; simp
    rw [e, List.map_id] at this
    exact this
  have l3 : (y.map Int.toNat).length = 2 * n := by rw [← p3.length_eq, List.length_range]
  refine ⟨_, hy, ⟨fun x hx => ?_, (p3.nodup_iff).mp List.nodup_range, by omega⟩, l3⟩
  rw [l3]
  exact List.mem_range.mp (p3.mem_iff.mpr hx)
theorem look_way_x {s : Int} (h : 2 ≤ s ∧ s ≤ 6) {y : List Int} (hy : sortI y ≠ rangeI 0 (2 * s)) : T_look_way s y = .ex ⟨"BadWay", none⟩ := by
  have hr : lrT 0 (2 * s) = .ok (rangeI 0 (2 * s)) := lrT_small (by omega) (by omega) (by omega)
  unfold T_look_way
  simp -implicitDefEqProofs only [hr, hy, Re.bind_ok, decide_false, Bool.not_false, if_true]
theorem look_way_o {s : Int} (h : 2 ≤ s ∧ s ≤ 6) {y : List Int} (hy : sortI y = rangeI 0 (2 * s)) : T_look_way s y = .ok () := by
  have hr : lrT 0 (2 * s) = .ok (rangeI 0 (2 * s)) := lrT_small (by omega) (by omega) (by omega)
  unfold T_look_way
  simp -implicitDefEqProofs only [hr, hy, Re.bind_ok, decide_true, Bool.not_true, Bool.false_eq_true, if_false]
theorem nat_way {s : Int} (h : 2 ≤ s ∧ s ≤ 6) {y : List Int} (hy : sortI y = rangeI 0 (2 * s)) : ∃ (n : Nat) (w : List Nat), s = (n : Int) ∧ 2 ≤ n ∧ n ≤ 6 ∧ y = toI w ∧ Way w ∧ w.length = 2 * n := by
  obtain ⟨n, rfl⟩ := Int.eq_ofNat_of_zero_le (show 0 ≤ s by omega)
  have e : (2 : Int) * (n : Int) = ((2 * n : Nat) : Int) := by omega
  rw [e] at hy
  obtain ⟨w, h1, h2, h3⟩ := way_of_sort (by omega) hy
  exact ⟨n, w, rfl, by omega, by omega, h1, h2, h3⟩
theorem nequT_refl {α : Type} [DecidableEq α] {ea : α → D} {a : α} (h : dok 12 (ea a) = true) : nequT ea a a = .ok false := by rw [nequT_ok h h]; simp
theorem dok_words {ws : List Str} (h : ∀ w ∈ ws, PyData.strOk w = true) : dok 12 (eL eS ws) = true := by
  show ((ws.map eS).all (dok 11)) = true
  rw [List.all_eq_true]
  intro d hd
  obtain ⟨w, hw, rfl⟩ := List.mem_map.mp hd
  exact h w hw
theorem nesT_ok {a b : Str} (h1 : PyData.strOk a = true) (h2 : PyData.strOk b = true) : nesT a b = .ok (!decide (a = b)) := by unfold nesT; exact if_pos ⟨h1, h2⟩
theorem nesT_refl {a : Str} (h : PyData.strOk a = true) : nesT a a = .ok false := by rw [nesT_ok h h]; simp
end C
end

section
set_option maxRecDepth 100000
set_option maxHeartbeats 1000000
namespace C
open PySem PySem.Spec L2 Ly
open PyProof.Rows hiding St
theorem setT_ok {α : Type} {xs : List α} {i : Nat} {a : α} (h : i < xs.length) : setT xs (i : Int) a = .ok (xs.set i a) := by
  unfold setT
  have : ixN xs.length (i : Int) = some i := by unfold ixN; simp; omega
  rw [this]
def wayI (n : Nat) (G : Nat → Nat) : List Int := (List.range n).map fun p => ((G p : Nat) : Int)
theorem wayI_get {m : Nat} {G : Nat → Nat} {p : Nat} (h : p < m) : (wayI m G)[p]? = some ((G p : Nat) : Int) := by simp [wayI, h]
theorem onto {n : Nat} {G : Nat → Nat} (h1 : ∀ p, p < n → G p < n) (h2 : ∀ p q, p < n → q < n → G p = G q → p = q) {j : Nat} (hj : j < n) : ∃ p, p < n ∧ G p = j := by
  by_cases hm : j ∈ (List.range n).map G
  · obtain ⟨p, hp, e⟩ := List.mem_map.mp hm
    exact ⟨p, List.mem_range.mp hp, e⟩
  · exfalso
    have hn : (j :: (List.range n).map G).Nodup := by
      rw [List.nodup_cons]
      refine ⟨hm, ?_⟩
      rw [List.Nodup, List.pairwise_map]
      have := List.nodup_range (n := n)
      rw [List.Nodup] at this
      exact this.imp_of_mem fun {a b} ha hb hne e => hne (h2 a b (List.mem_range.mp ha) (List.mem_range.mp hb) e)
    have := nodup_le n _ hn fun x hx => by
      rcases List.mem_cons.mp hx with rfl | hx
      · exact hj
      · obtain ⟨p, hp, rfl⟩ := List.mem_map.mp hx
        exact h1 p (List.mem_range.mp hp)
    simp at this
    omega
structure Bij (m : Nat) (G : Nat → Nat) : Prop where
  lt : ∀ p, p < m → G p < m
  inj : ∀ p q, p < m → q < m → G p = G q → p = q
theorem Bij.of_inv {m : Nat} {G G' : Nat → Nat} (h : ∀ p, p < m → G p < m) (e : ∀ p, p < m → G' (G p) = p) : Bij m G := ⟨h, fun p q hp hq z => by rw [← e p hp, z, e q hq]⟩
theorem Bij.other {m : Nat} {G G' : Nat → Nat} (h : Bij m G) (e : ∀ p, p < m → G' (G p) = p) : ∀ j, j < m → G (G' j) = j := fun j hj => by
  obtain ⟨p, hp, rfl⟩ := onto h.lt h.inj hj
  rw [e p hp]
theorem wayI_toI (m : Nat) (G : Nat → Nat) : wayI m G = toI ((List.range m).map G) := by unfold wayI toI; rw [List.map_map]; rfl
theorem rangeI_toI (n : Nat) : rangeI 0 (n : Int) = toI (List.range n) := by
  unfold rangeI toI
  have : ((n : Int) - 0).toNat = n := by omega
  rw [this]
  apply List.map_congr_left
  intro i _
  omega
theorem sort_wayI {m : Nat} {G : Nat → Nat} (h : Bij m G) : sortI (wayI m G) = rangeI 0 (m : Int) := by
  symm
  rw [rangeI_toI, wayI_toI]
  refine sortI_is ?_ ?_
  · refine List.Perm.map _ ?_
    rw [List.perm_ext_iff_of_nodup List.nodup_range]
    · intro a
      rw [List.mem_range, List.mem_map]
      constructor
      · intro ha
        obtain ⟨p, hp, e⟩ := onto h.lt h.inj ha
        exact ⟨p, List.mem_range.mpr hp, e⟩
      · rintro ⟨p, hp, rfl⟩
        exact h.lt p (List.mem_range.mp hp)
    · rw [List.Nodup, List.pairwise_map]
      refine List.Pairwise.imp_of_mem ?_ (List.nodup_range (n := m))
      intro a b ha hb hne e
      exact hne (h.inj a b (List.mem_range.mp ha) (List.mem_range.mp hb) e)
  · unfold toI
    rw [List.pairwise_map]
    exact (List.pairwise_lt_range (n := m)).imp fun h => by omega
theorem lr_2n {n : Nat} (hn : n ≤ 6) : lrT 0 ((2 : Int) * n) = .ok (rangeI 0 ((2 * n : Nat) : Int)) := by
  have e2 : (2 : Int) * (n : Int) = ((2 * n : Nat) : Int) := by omega
  rw [e2, lrT_small (by omega) (by omega) (by omega)]
theorem range_way (m : Nat) : rangeI 0 (m : Int) = wayI m fun p => p := by rw [rangeI_toI, wayI_toI, List.map_id']
theorem still_t {n : Nat} (h2 : 2 ≤ n) (hn : n ≤ 6) : T_still (n : Int) = .ok (wayI (2 * n) fun p => p) := by
  unfold T_still
  simp only [look_spots_ok h2 hn, lr_2n hn, Re.bind_ok, range_way]
theorem look_way_t {n : Nat} (hn : n ≤ 6) {G : Nat → Nat} (h : Bij (2 * n) G) : T_look_way (n : Int) (wayI (2 * n) G) = .ok () := by
  unfold T_look_way
  simp -implicitDefEqProofs only [lr_2n hn, sort_wayI h, Re.bind_ok, decide_true, Bool.not_true, Bool.false_eq_true, if_false]
theorem then_t {n : Nat} (h2 : 2 ≤ n) (hn : n ≤ 6) {G G' : Nat → Nat} (h : Bij (2 * n) G) (h' : Bij (2 * n) G') : T_then (n : Int) (wayI (2 * n) G) (wayI (2 * n) G') = .ok (wayI (2 * n) fun p => G' (G p)) := by
  have e2 : mapT (fun v4 : Int => ixT (wayI (2 * n) G') v4) (wayI (2 * n) G) = .ok (wayI (2 * n) fun p => G' (G p)) := by
    rw [mapT_ok (g := fun z => ((G' z.toNat : Nat) : Int)) fun a ha => by
      obtain ⟨p, hp, rfl⟩ := List.mem_map.mp ha
      exact ixT_ok rfl (wayI_get (h.lt p (List.mem_range.mp hp)))]
    unfold wayI
    rw [List.map_map]; rfl
  have e3 : lcM (.ok (wayI (2 * n) fun p => G' (G p))) = .ok (wayI (2 * n) fun p => G' (G p)) := lcM_ok (by simp [wayI]; omega)
  unfold T_then
  simp only [look_spots_ok h2 hn, look_way_t hn h, look_way_t hn h', e2, e3, Re.bind_ok]
theorem undone_t {n : Nat} (h2 : 2 ≤ n) (hn : n ≤ 6) {G G' : Nat → Nat} (h : Bij (2 * n) G) (e : ∀ p, p < 2 * n → G' (G p) = p) : T_undone (n : Int) (wayI (2 * n) G) = .ok (wayI (2 * n) G') := by
  have hl : (wayI (2 * n) G).length = 2 * n := by simp [wayI]
  have hel : (enumI (wayI (2 * n) G)).length = 2 * n := by simp [enumI, hl]
  have er : repT ([(0 : Int)] : List Int) ((wayI (2 * n) G).length : Int) = .ok (List.replicate (2 * n) 0) := by
    unfold repT
    rw [hl, if_pos ⟨by omega, by omega, by simp; omega⟩]
    have : (((2 * n : Nat) : Int)).toNat = 2 * n := by omega
    rw [this]
    congr 1
    generalize 2 * n = k
    induction k with
    | zero => rfl
    | succ k ih => rw [List.replicate_succ, List.flatten_cons, ih, List.replicate_succ]; rfl
  obtain ⟨row, e1, l1, a1⟩ := forT_num (B := B1_undone) (as := enumI (wayI (2 * n) G)) (I := fun i row => row.length = 2 * n ∧ ∀ q, q < i → row[G q]? = some (q : Int)) (s := List.replicate (2 * n) 0) ⟨by simp, fun q hq => by omega⟩ fun i hi row ⟨hr, ha⟩ => by
    have hi' : i < 2 * n := by omega
    have ei : (enumI (wayI (2 * n) G))[i] = ((i : Int), ((G i : Nat) : Int)) := by simp [enumI, wayI]
    have hg := h.lt i hi'
    refine ⟨row.set (G i) (i : Int), ?_, by simpa using hr, fun q hq => ?_⟩
    · rw [ei]
      unfold B1_undone
      simp only [Re.bind_ok, nxT]
      rw [setT_ok (by omega)]
      rfl
    · by_cases hqi : q = i
      · subst hqi; rw [List.getElem?_set_self (by omega)]
      · rw [List.getElem?_set_ne (fun z => hqi (h.inj i q hi' (by omega) z).symm)]
        exact ha q (by omega)
  rw [hel] at a1
  have ew : row = wayI (2 * n) G' := by
    apply List.ext_getElem?
    intro j
    by_cases hj : j < 2 * n
    · obtain ⟨p, hp, rfl⟩ := onto h.lt h.inj hj
      rw [a1 p hp, wayI_get hj, e p hp]
    · rw [List.getElem?_eq_none (by omega), List.getElem?_eq_none (by simp [wayI]; omega)]
  unfold T_undone
  simp only [look_spots_ok h2 hn, look_way_t hn h, er, e1, ew, Re.bind_ok]
end C
end

section
set_option maxRecDepth 100000
set_option maxHeartbeats 1000000
namespace C
open PySem PySem.Spec L2 Ly
open PyProof.Rows hiding St
theorem way_bij {w : List Nat} (W : Way w) : Bij w.length (fw w) := ⟨W.hb, W.hi⟩
theorem toI_way (w : List Nat) : toI w = wayI w.length (fw w) := by
  rw [wayI_toI]
  congr 1
  apply List.ext_getElem (by simp)
  intro i h1 h2
  simp [fw_at h1]
def inv (w : List Nat) (j : Nat) : Nat := (ixR' w j).getD 0
theorem inv_at {w : List Nat} (W : Way w) {p : Nat} (h : p < w.length) : inv w (fw w p) = p := by
  unfold inv
  rw [ixR'_at W.nd (p := fw w p) (i := p) (by rw [fw_at h]; exact List.getElem?_eq_getElem h)]
  rfl
theorem idx_w {w : List Nat} (W : Way w) {j : Nat} (h : j < w.length) : idxT (toI w) (j : Int) = .ok ((inv w j : Nat) : Int) := by
  obtain ⟨p, hp, rfl⟩ := onto (way_bij W).lt (way_bij W).inj h
  have e : (toI w).findIdx? (· == ((fw w p : Nat) : Int)) = ixR' w (fw w p) := by
    unfold toI ixR'
    rw [List.findIdx?_map]
    congr 1
    funext x
    show (((x : Nat) : Int) == ((fw w p : Nat) : Int)) = (x == fw w p)
    by_cases h : x = fw w p
    · subst h; rw [beq_self_eq_true, beq_self_eq_true]
    · have : ¬ (x : Int) = (fw w p : Int) := by omega
      rw [beq_eq_false_iff_ne.mpr this, beq_eq_false_iff_ne.mpr h]
  unfold idxT
  rw [e, ixR'_at W.nd (p := fw w p) (i := p) (by rw [fw_at hp]; exact List.getElem?_eq_getElem hp), inv_at W hp]
def okW (s : Int) (y : List Int) : Prop := sortI y = rangeI 0 (2 * s)
def backL (y : List Int) : List Int := wayI y.length (inv (y.map Int.toNat))
def thenL (y z : List Int) : List Int := y.map fun p => (z[p.toNat]?).getD 0
theorem nat_toI (w : List Nat) : (toI w).map Int.toNat = w := by
  unfold toI
  rw [List.map_map]
  have e : (Int.toNat ∘ fun (x : Nat) => (x : Int)) = id := by funext x; exact Int.toNat_natCast x
  rw [e, List.map_id]
theorem undone_w {s : Int} (h : 2 ≤ s ∧ s ≤ 6) {y : List Int} (hy : okW s y) : T_undone s y = .ok (backL y) ∧ lcM (mapT (fun (v : Int) => idxT y v) (rangeI 0 (2 * s))) = .ok (backL y) := by
  obtain ⟨n, w, rfl, a1, a2, rfl, W, hl⟩ := nat_way h hy
  have eb : backL (toI w) = wayI (2 * n) (inv w) := by unfold backL; rw [nat_toI]; congr 1; simp [toI, hl]
  have B := way_bij W
  rw [hl] at B
  have ew : toI w = wayI (2 * n) (fw w) := by rw [toI_way, hl]
  refine ⟨?_, ?_⟩
  · rw [eb, ew]
    exact undone_t a1 a2 B fun p hp => inv_at W (by omega)
  · have e2 : (2 : Int) * (n : Int) = ((2 * n : Nat) : Int) := by omega
    have em : mapT (fun (v : Int) => idxT (toI w) v) (rangeI 0 ((2 * n : Nat) : Int)) = .ok ((rangeI 0 ((2 * n : Nat) : Int)).map fun z => ((inv w z.toNat : Nat) : Int)) := mapT_ok fun a ha => by
      obtain ⟨h0, h1⟩ := mem_rangeI.mp ha
      obtain ⟨j, rfl⟩ := Int.eq_ofNat_of_zero_le h0
      exact idx_w W (by omega)
    rw [e2, em, eb, rangeI_toI]
    have : (toI (List.range (2 * n))).map (fun z : Int => ((inv w z.toNat : Nat) : Int)) = wayI (2 * n) (inv w) := by
      unfold toI wayI
      rw [List.map_map]
      rfl
    rw [this]
    exact lcM_ok (by simp [wayI]; omega)
theorem then_w {s : Int} (h : 2 ≤ s ∧ s ≤ 6) {y z : List Int} (hy : okW s y) (hz : okW s z) : ∃ L, T_then s y z = .ok L ∧ lcM (mapT (fun (v : Int) => ixT z v) y) = .ok L ∧ L.length ≤ 12 := by
  obtain ⟨n, w, rfl, a1, a2, rfl, W, hl⟩ := nat_way h hy
  obtain ⟨n', w', e', _, _, rfl, W', hl'⟩ := nat_way h hz
  have : n' = n := by omega
  subst this
  have B := way_bij W
  rw [hl] at B
  have B' := way_bij W'
  rw [hl'] at B'
  have ew : toI w = wayI (2 * n') (fw w) := by rw [toI_way, hl]
  have ew' : toI w' = wayI (2 * n') (fw w') := by rw [toI_way, hl']
  refine ⟨_, by rw [ew, ew']; exact then_t a1 a2 B B', ?_, by simp [wayI]; omega⟩
  rw [ew, ew']
  have e2 : mapT (fun v4 : Int => ixT (wayI (2 * n') (fw w')) v4) (wayI (2 * n') (fw w)) = .ok (wayI (2 * n') fun p => fw w' (fw w p)) := by
    rw [mapT_ok (g := fun z => ((fw w' z.toNat : Nat) : Int)) fun a ha => by
      obtain ⟨p, hp, rfl⟩ := List.mem_map.mp ha
      exact ixT_ok rfl (wayI_get (B.lt p (List.mem_range.mp hp)))]
    unfold wayI
    rw [List.map_map]; rfl
  rw [e2]
  exact lcM_ok (by simp [wayI]; omega)
theorem back_len {s : Int} (h : 2 ≤ s ∧ s ≤ 6) {y : List Int} (hy : okW s y) : (backL y).length ≤ 12 := by
  obtain ⟨n, w, rfl, a1, a2, rfl, W, hl⟩ := nat_way h hy
  simp [backL, wayI, toI]; omega
theorem bent_o {n : Nat} (h2 : 2 ≤ n) (hn : n ≤ 6) {w : List Nat} (hl : w.length = 2 * n) {d : List Int} (hd : Small d) (ld : 3 ≤ d.length) : ∃ y, T__law_bent (toI w) d = .ok y ∧ y.length ≤ 13 := by
  obtain ⟨a0, e0, p0, _⟩ := ix_row hd (z := 0) (by omega) (by omega)
  obtain ⟨a1, e1, p1, _⟩ := ix_row hd (z := 1) (by omega) (by omega)
  obtain ⟨a2, e2, p2, _⟩ := ix_row hd (z := 2) (by omega) (by omega)
  have lt : (toI w).length = 2 * n := by simp [toI, hl]
  have em : modT a0 ((toI w).length : Int) = .ok (a0 % ((toI w).length : Int)) := modT_ok (by omega)
  obtain ⟨f, _, ef⟩ := ix_some (xs := toI w) (z := 0) (by omega) (by omega)
  obtain ⟨l, el⟩ : ∃ l, ixT (toI w) (-(1 : Int)) = .ok l := by
    have hne : toI w ≠ [] := fun z => by rw [z] at lt; simp at lt; omega
    have := List.dropLast_concat_getLast hne
    exact ⟨_, by rw [← this]; exact ix_last (by simp; omega)⟩
  have l5 : ∀ a b c d e : Int, lcP [a, b, c, d, e] = .ok [a, b, c, d, e] := fun _ _ _ _ _ => lcP_ok (Nat.le_of_ble_eq_true rfl)
  obtain ⟨o, _, eo⟩ := ix_some (xs := [-1, ((toI w).length : Int), f, 10 ^ (40 : Int).toNat, l]) (z := a1 % 5) (by omega) (by simp; omega)
  generalize hv : a0 % ((toI w).length : Int) = v at em
  have cl : ∀ lo hi, (cut (toI w) lo hi).length ≤ 12 := fun lo hi => by have := cut_length_le (toI w) lo hi; omega
  have v0 : 0 ≤ v ∧ v < 2 * n := by rw [← hv, lt]; exact ⟨Int.emod_nonneg _ (by omega), by have := Int.emod_lt_of_pos a0 (b := ((2 * n : Nat) : Int)) (by omega); omega⟩
  obtain ⟨i, rfl⟩ := Int.eq_ofNat_of_zero_le v0.1
  have ct : cut (toI w) none (some ((i : Nat) : Int)) = (toI w).take i := cut_to (by omega)
  have cf : cut (toI w) (some (((i : Nat) : Int) + 1)) none = (toI w).drop (i + 1) := cut_from (n := i + 1) (by omega)
  have c1 : catT ((toI w).take i) [o] = .ok ((toI w).take i ++ [o]) := catT_ok (by simp; omega)
  have c2 : catT ((toI w).take i ++ [o]) ((toI w).drop (i + 1)) = .ok ((toI w).take i ++ [o] ++ (toI w).drop (i + 1)) := catT_ok (by simp; omega)
  have c3 : catT ((toI w).take i) ((toI w).drop (i + 1)) = .ok ((toI w).take i ++ (toI w).drop (i + 1)) := catT_ok (by simp; omega)
  have c4 : catT (toI w) [o] = .ok (toI w ++ [o]) := catT_ok (by simp; omega)
  have l6 : ∀ a b c d e f : List Int, lcP [a, b, c, d, e, f] = .ok [a, b, c, d, e, f] := fun _ _ _ _ _ _ => lcP_ok (Nat.le_of_ble_eq_true rfl)
  obtain ⟨y, my, ey⟩ := ix_some (xs := [toI w, toI w, (toI w).take i ++ [o] ++ (toI w).drop (i + 1), (toI w).take i ++ (toI w).drop (i + 1), toI w ++ [o], (toI w).reverse]) (z := a2 % 6) (by omega) (by simp; omega)
  refine ⟨y, ?_, ?_⟩
  · unfold T__law_bent
    simp -implicitDefEqProofs only [e0, e1, e2, em, ef, el, l5, eo, ct, cf, c1, c2, c3, c4, l6, ey, Re.bind_ok]
  · simp only [List.mem_cons, List.not_mem_nil, or_false] at my
    rcases my with rfl | rfl | rfl | rfl | rfl | rfl <;> simp [toI, hl] <;> omega
abbrev Td := Option (List Int) × Str
noncomputable def d1 (s : Int) (y : List Int) : Td := if sortI y = rangeI 0 (2 * s) then (some (backL y), "") else (none, "no BadWay")
theorem undone_r {s : Int} (h : 2 ≤ s ∧ s ≤ 6) (y : List Int) : trT xL (T_undone s y) = .ok (d1 s y) := by
  unfold d1
  by_cases hy : sortI y = rangeI 0 (2 * s)
  · rw [if_pos hy, (undone_w h hy).1]; rfl
  · rw [if_neg hy]
    unfold T_undone
    rw [look_spots_o h, Re.bind_ok, look_way_x h hy]
    exact tr_2 (by decide +kernel) (by decide +kernel)
theorem undone_s {s : Int} (h : ¬ (2 ≤ s ∧ s ≤ 6)) (y : List Int) : trT xL (T_undone s y) = .ok (none, "no BadSpots") := by
  unfold T_undone
  rw [look_spots_x h]
  exact tr_2 (by decide +kernel) (by decide +kernel)
theorem then_s {s : Int} (h : ¬ (2 ≤ s ∧ s ≤ 6)) (y z : List Int) : trT xL (T_then s y z) = .ok (none, "no BadSpots") := by
  unfold T_then
  rw [look_spots_x h]
  exact tr_2 (by decide +kernel) (by decide +kernel)
theorem still_s {s : Int} (h : ¬ (2 ≤ s ∧ s ≤ 6)) : trT xL (T_still s) = .ok (none, "no BadSpots") := by
  unfold T_still
  rw [look_spots_x h]
  exact tr_2 (by decide +kernel) (by decide +kernel)
theorem then_x {s : Int} (h : 2 ≤ s ∧ s ≤ 6) {y z : List Int} (hz : ¬ (sortI y = rangeI 0 (2 * s) ∧ sortI z = rangeI 0 (2 * s))) : trT xL (T_then s y z) = .ok (none, "no BadWay") := by
  unfold T_then
  rw [look_spots_o h, Re.bind_ok]
  by_cases hy : sortI y = rangeI 0 (2 * s)
  · rw [look_way_o h hy, Re.bind_ok, look_way_x h fun q => hz ⟨hy, q⟩]
    exact tr_2 (by decide +kernel) (by decide +kernel)
  · rw [look_way_x h hy]
    exact tr_2 (by decide +kernel) (by decide +kernel)
theorem same3 {a b c : Td} (h : ∀ x ∈ [a, b, c], dsame 10 (eP2 (eO (eL eI)) eS x) = true) : sameT (eL (eP2 (eO (eL eI)) eS)) [a, b, c] [a, b, c] = .ok true := sameT_ok rfl (dsame_L (n := 10) h (by simp))
theorem ds_no {w : Str} (h : PyData.strOk w = true) : dsame 10 (eP2 (eO (eL eI)) eS ((none, w) : Td)) = true := by
  show ((dsame 9 D.n && (dsame 9 (D.s w) && true)) && decide (2 ≤ 16777216)) = true
  rw [show dsame 9 (D.s w) = true from h]
  rfl
theorem ds_so {L : List Int} (h : L.length ≤ 12) : dsame 10 (eP2 (eO (eL eI)) eS ((some L, "") : Td)) = true := by
  show ((dsame 9 (eL eI L) && (dsame 9 (D.s "") && true)) && decide (2 ≤ 16777216)) = true
  rw [dsame_LI (n := 8) (xs := L) (by omega), show dsame 9 (D.s "") = true from by decide +kernel]
  rfl
theorem ok_way : PyData.strOk ("no BadWay" : Str) = true := by decide +kernel
theorem ok_spots : PyData.strOk ("no BadSpots" : Str) = true := by decide +kernel
theorem ds_d1 {s : Int} (h : 2 ≤ s ∧ s ≤ 6) (y : List Int) : dsame 10 (eP2 (eO (eL eI)) eS (d1 s y)) = true := by
  unfold d1
  split
  · rename_i hy; exact ds_so (back_len h hy)
  · exact ds_no ok_way
theorem turn_t {row : List Int} (hl : row.length = 120) (hs : Small row) {k : Nat} (hk : k < 3) : B1_law row () (k : Int) = .ok () := by
  have ec : cut row (some ((40 : Int) * (k : Int))) (some (((40 : Int) * (k : Int)) + (40 : Int))) = (row.drop (40 * k)).take 40 := by
    have := cut_ab (xs := row) (a := 40 * k) (b := 40 * k + 40) (by omega) (by omega)
    rw [show 40 * k + 40 - 40 * k = 40 by omega] at this
    have e1 : (40 : Int) * (k : Int) = ((40 * k : Nat) : Int) := by omega
    have e2 : (40 : Int) * (k : Int) + 40 = ((40 * k + 40 : Nat) : Int) := by omega
    rw [e2, e1]; exact this
  generalize hd : (row.drop (40 * k)).take 40 = d at ec
  have ld : d.length = 40 := by rw [← hd]; simp; omega
  have sd : Small d := fun x hx => by rw [← hd] at hx; exact mem_small hs hx
  obtain ⟨a0, e0, p0, _⟩ := ix_row sd (z := 0) (by omega) (by omega)
  obtain ⟨s, es⟩ := any_spots_r p0
  obtain ⟨n, n2, n6, en⟩ := spots_t (d := a0 / 8) (by omega)
  have e2n : (2 : Int) * (n : Int) = ((2 * n : Nat) : Int) := by omega
  have ed1 : cut d (some (1 : Int)) none = d.drop 1 := cut_from (n := 1) (by omega)
  have ed14 : cut d (some (14 : Int)) none = d.drop 14 := cut_from (n := 14) (by omega)
  have ed18 : cut d (some (18 : Int)) none = d.drop 18 := cut_from (n := 18) (by omega)
  have ed31 : cut d (some (31 : Int)) none = d.drop 31 := cut_from (n := 31) (by omega)
  obtain ⟨w, ew, W, lw⟩ := mixed_t (d := d.drop 1) (m := 2 * n) (by omega) (by simp; omega) (fun x hx => (sd x (List.mem_of_mem_drop (List.mem_of_mem_take hx))).1)
  obtain ⟨w', ew', W', lw'⟩ := mixed_t (d := d.drop 18) (m := 2 * n) (by omega) (by simp; omega) (fun x hx => (sd x (List.mem_of_mem_drop (List.mem_of_mem_take hx))).1)
  obtain ⟨y, ey, ly⟩ := bent_o n2 n6 lw (d := d.drop 14) (fun x hx => sd x (List.mem_of_mem_drop hx)) (by simp; omega)
  obtain ⟨z, ez, lz⟩ := bent_o n2 n6 lw' (d := d.drop 31) (fun x hx => sd x (List.mem_of_mem_drop hx)) (by simp; omega)
  have elr : lrX ((2 : Int) * (if (6 : Int) < s then (6 : Int) else s)) = .ok (rangeI 0 ((2 : Int) * (if (6 : Int) < s then (6 : Int) else s))) := lrX_small (by split <;> omega)
  have lb2 : ∀ a b : Bool, lcM (.ok [a, b] : Re (List Bool)) = .ok [a, b] := fun _ _ => lcP_ok (Nat.le_of_ble_eq_true rfl)
  have x0 : ixT [y, z] (0 : Int) = .ok y := ixT_ok (n := 0) rfl rfl
  have x1 : ixT [y, z] (1 : Int) = .ok z := ixT_ok (n := 1) rfl rfl
  have r3 : repT ([((none : Option (List Int)), ("no BadSpots" : Str))] : List Td) (3 : Int) = .ok [(none, "no BadSpots"), (none, "no BadSpots"), (none, "no BadSpots")] := by unfold repT; rfl
  have lt1 : ∀ a : Td, lcP [a] = .ok [a] := fun _ => lcP_ok (Nat.le_of_ble_eq_true rfl)
  have lt3 : ∀ a b c : Td, lcP [a, b, c] = .ok [a, b, c] := fun _ _ _ => lcP_ok (Nat.le_of_ble_eq_true rfl)
  have ap1 : ∀ a b : Td, appT [a] b = .ok [a, b] := fun _ _ => appT_ok (Nat.le_of_ble_eq_true rfl)
  have ap2 : ∀ a b c : Td, appT [a, b] c = .ok [a, b, c] := fun _ _ _ => appT_ok (Nat.le_of_ble_eq_true rfl)
  unfold B1_law
  simp -implicitDefEqProofs only [ec, Re.bind_ok, e0, es, en, e2n, ed1, ed14, ed18, ed31, ew, ew', ey, ez, elr, mapT, lb2, x0, x1, r3, lt1, ap1, ap2]
  generalize hb1 : (!decide (sortI y = rangeI 0 ((2 : Int) * (if (6 : Int) < s then (6 : Int) else s)))) = b1
  generalize hb2 : (!decide (sortI z = rangeI 0 ((2 : Int) * (if (6 : Int) < s then (6 : Int) else s)))) = b2
  by_cases h : 2 ≤ s ∧ s ≤ 6
  · have c1 : (decide ((2 : Int) ≤ s) && decide (s ≤ (6 : Int))) = true := by simp; omega
    have es2 : (if (6 : Int) < s then (6 : Int) else s) = s := by split <;> omega
    rw [es2] at hb1 hb2
    have hr : lrT 0 (2 * s) = .ok (rangeI 0 (2 * s)) := lrT_small (by omega) (by omega) (by omega)
    have hr2 : rngT 0 (2 * s) = .ok (rangeI 0 (2 * s)) := rngT_small (by omega) (by omega)
    have l12 : (rangeI 0 (2 * s)).length ≤ 12 := by rw [rangeI_len]; omega
    have st : T_still s = .ok (rangeI 0 (2 * s)) := by unfold T_still; rw [look_spots_o h, Re.bind_ok, hr]; rfl
    have i0 : ixT [b1, b2] (0 : Int) = .ok b1 := ixT_ok (n := 0) rfl rfl
    simp -implicitDefEqProofs only [c1, if_true, hr, hr2, Re.bind_ok, lt3, i0, st, tr_ok, undone_r h, lt1, ap1]
    have s1 : (if (!b1) = true then (((lcM (mapT (fun v225 => idxT y v225) (rangeI 0 (2 * s)))).bind fun v204 => Re.ok (some v204)).bind fun v205 => Re.ok ((v205, ("" : Str)) : Td)).bind fun v230 => (nxT (Re.ok (1 : Int))).bind fun v231 => (setT [((some (rangeI 0 (2 * s)), ("" : Str)) : Td), (none, "no BadWay"), (none, "no BadWay")] v231 v230).bind fun v232 => Re.ok v232
        else Re.ok [((some (rangeI 0 (2 * s)), ("" : Str)) : Td), (none, "no BadWay"), (none, "no BadWay")]) = .ok [(some (rangeI 0 (2 * s)), ""), d1 s y, (none, "no BadWay")] := by
      unfold d1
      by_cases hy : sortI y = rangeI 0 (2 * s)
      · have : b1 = false := by rw [← hb1, decide_eq_true hy]; rfl
        rw [this, Bool.not_false, if_pos rfl, (undone_w h hy).2, if_pos hy]
        simp -implicitDefEqProofs only [Re.bind_ok, nxT_ok]
        have := setT_ok (xs := [((some (rangeI 0 (2 * s)), ("" : Str)) : Td), (none, "no BadWay"), (none, "no BadWay")]) (i := 1) (a := ((some (backL y), "") : Td)) (show 1 < 3 by decide)
        rw [show ((1 : Nat) : Int) = 1 from rfl] at this
        rw [this]
        rfl
      · have : b1 = true := by rw [← hb1, decide_eq_false hy]; rfl
        rw [this, Bool.not_true, if_neg Bool.false_ne_true, if_neg hy]
    obtain ⟨d2, t2, hd2, s2⟩ : ∃ d2 : Td, trT xL (T_then s y z) = .ok d2 ∧ dsame 10 (eP2 (eO (eL eI)) eS d2) = true ∧ ((if (!decide (true ∈ [b1, b2])) = true then (((lcM (mapT (fun v243 => ixT z v243) y)).bind fun v204 => Re.ok (some v204)).bind fun v205 => Re.ok ((v205, ("" : Str)) : Td)).bind fun v248 => (nxT (Re.ok (2 : Int))).bind fun v249 => (setT [((some (rangeI 0 (2 * s)), ("" : Str)) : Td), d1 s y, (none, "no BadWay")] v249 v248).bind fun v232 => Re.ok v232
        else Re.ok [((some (rangeI 0 (2 * s)), ("" : Str)) : Td), d1 s y, (none, "no BadWay")]).bind fun v232 => Re.ok v232) = .ok [(some (rangeI 0 (2 * s)), ""), d1 s y, d2] := by
      by_cases hz : sortI y = rangeI 0 (2 * s) ∧ sortI z = rangeI 0 (2 * s)
      · obtain ⟨L, t1, t2, t3⟩ := then_w h hz.1 hz.2
        have f1 : b1 = false := by rw [← hb1, decide_eq_true hz.1]; rfl
        have f2 : b2 = false := by rw [← hb2, decide_eq_true hz.2]; rfl
        refine ⟨(some L, ""), by rw [t1]; rfl, ds_so t3, ?_⟩
        rw [f1, f2, show (!decide (true ∈ [false, false])) = true from rfl, if_pos rfl, t2]
        simp -implicitDefEqProofs only [Re.bind_ok, nxT_ok]
        have := setT_ok (xs := [((some (rangeI 0 (2 * s)), ("" : Str)) : Td), d1 s y, (none, "no BadWay")]) (i := 2) (a := ((some L, "") : Td)) (show 2 < 3 by decide)
        rw [show ((2 : Nat) : Int) = 2 from rfl] at this
        rw [this]
        rfl
      · have f : (!decide (true ∈ [b1, b2])) = false := by
          have : b1 = true ∨ b2 = true := by
            by_cases h1 : sortI y = rangeI 0 (2 * s)
            · right; rw [← hb2, decide_eq_false fun q => hz ⟨h1, q⟩]; rfl
            · left; rw [← hb1, decide_eq_false h1]; rfl
          rcases this with rfl | rfl
          · rfl
          · cases b1 <;> rfl
        refine ⟨(none, "no BadWay"), then_x h hz, ds_no ok_way, ?_⟩
        rw [f, if_neg Bool.false_ne_true]
        rfl
    rw [s1, Re.bind_ok, s2, Re.bind_ok, t2, Re.bind_ok, ap2, Re.bind_ok, same3 (by
      intro x hx
      simp only [List.mem_cons, List.not_mem_nil, or_false] at hx
      rcases hx with rfl | rfl | rfl
      · exact ds_so l12
      · exact ds_d1 h y
      · exact hd2)]
    simp [nxT_ok]
  · have c1 : (decide ((2 : Int) ≤ s) && decide (s ≤ (6 : Int))) = false := by rw [Bool.eq_false_iff]; simp only [ne_eq, Bool.and_eq_true, decide_eq_true_eq]; exact h
    have e1 : sameT (eL (eP2 (eO (eL eI)) eS)) [((none : Option (List Int)), ("no BadSpots" : Str)), (none, "no BadSpots"), (none, "no BadSpots")] [((none : Option (List Int)), ("no BadSpots" : Str)), (none, "no BadSpots"), (none, "no BadSpots")] = .ok true := same3 (by simp [ds_no ok_spots])
    simp -implicitDefEqProofs only [c1, Bool.false_eq_true, if_false, Re.bind_ok, still_s h, undone_s h, then_s h, lt1, ap1, ap2, e1, nxT_ok]
    simp
theorem law_t (ns : List Int) (hl : ns.length ≤ 63) : T_law ns = .ok true := by
  obtain ⟨row, e, hr, hs⟩ := numbers_t ns hl 120 (by decide)
  have e : T__law_numbers ns 120 = .ok row := e
  have er : rngT 0 3 = .ok (rangeI 0 3) := rngT_small (by omega) (by omega)
  have eL : forT (B1_law row) (rangeI 0 3) () = .ok () := forT_unit fun a ha => by
    obtain ⟨h0, h1⟩ := mem_rangeI.mp ha
    obtain ⟨k, rfl⟩ := Int.eq_ofNat_of_zero_le h0
    exact turn_t hr hs (by omega)
  unfold T_law
  simp only [e, er, eL, Re.bind_ok]
theorem law_true (ns : List Int) (hl : ns.length ≤ 63) : F_law [.z (ns.map .i)] = .ok (.sh (.b true)) := re_true (t_law ns) (law_t ns hl)
end C
end

namespace C
set_option maxRecDepth 100000
set_option maxHeartbeats 4000000
open PySem PySem.Spec L2 Ly
open PyProof.Rows hiding St
theorem all_mk {P : Program} {w : World} {K : PySem.W.Frag} {h : Heap} {mg : Str → Option Value} {fa : Addr} (X : K.In h) (G : h.Ns mainGlobals mg) (hfa : mg "law" = some (.ref fa))
    (zb_all : PySem.W.nsIn K mainGlobals "all" = some none)
    (zb_bool : PySem.W.nsIn K mainGlobals "bool" = some none)
    (zb_enumerate : PySem.W.nsIn K mainGlobals "enumerate" = some none)
    (zb_int : PySem.W.nsIn K mainGlobals "int" = some none)
    (zb_isinstance : PySem.W.nsIn K mainGlobals "isinstance" = some none)
    (zb_len : PySem.W.nsIn K mainGlobals "len" = some none)
    (zb_list : PySem.W.nsIn K mainGlobals "list" = some none)
    (zb_min : PySem.W.nsIn K mainGlobals "min" = some none)
    (zb_range : PySem.W.nsIn K mainGlobals "range" = some none)
    (zb_sorted : PySem.W.nsIn K mainGlobals "sorted" = some none)
    (zb_str : PySem.W.nsIn K mainGlobals "str" = some none)
    (zb_tuple : PySem.W.nsIn K mainGlobals "tuple" = some none)
    (zb_zip : PySem.W.nsIn K mainGlobals "zip" = some none)
    {t_LEAST_SPOTS : Tok}
    (zc_LEAST_SPOTS : PySem.W.nsIn K mainGlobals "LEAST_SPOTS" = some (some (.int 2 t_LEAST_SPOTS)))
    {t_MOST_SPOTS : Tok}
    (zc_MOST_SPOTS : PySem.W.nsIn K mainGlobals "MOST_SPOTS" = some (some (.int 6 t_MOST_SPOTS)))
    {C_BadSpots : Addr}
    (zx1_BadSpots : PySem.W.nsIn K mainGlobals "BadSpots" = some (some (.ref C_BadSpots)))
    (zx2_BadSpots : PySem.W.excIn K C_BadSpots [.type "ValueError", .type "Exception", .type "BaseException", .type "object"] "ValueError.__new__" = true)
    (zx3_BadSpots : PySem.W.keepIn K (.ref C_BadSpots) = true)
    (zx4_BadSpots : PySem.W.subIn K (.ref C_BadSpots) (.type "BaseException") = some true)
    (zx5_BadSpots : PySem.W.typeIn K (.ref C_BadSpots) = some (.type "type"))
    {C_BadWay : Addr}
    (zx1_BadWay : PySem.W.nsIn K mainGlobals "BadWay" = some (some (.ref C_BadWay)))
    (zx2_BadWay : PySem.W.excIn K C_BadWay [.type "ValueError", .type "Exception", .type "BaseException", .type "object"] "ValueError.__new__" = true)
    (zx3_BadWay : PySem.W.keepIn K (.ref C_BadWay) = true)
    (zx4_BadWay : PySem.W.subIn K (.ref C_BadWay) (.type "BaseException") = some true)
    (zx5_BadWay : PySem.W.typeIn K (.ref C_BadWay) = some (.type "type"))
    {C_BadCall : Addr}
    (zx1_BadCall : PySem.W.nsIn K mainGlobals "BadCall" = some (some (.ref C_BadCall)))
    {C_BadBar : Addr}
    (zx1_BadBar : PySem.W.nsIn K mainGlobals "BadBar" = some (some (.ref C_BadBar)))
    {C_BadFigure : Addr}
    (zx1_BadFigure : PySem.W.nsIn K mainGlobals "BadFigure" = some (some (.ref C_BadFigure)))
    {C_BadNumber : Addr}
    (zx1_BadNumber : PySem.W.nsIn K mainGlobals "BadNumber" = some (some (.ref C_BadNumber)))
    {C_TooMany : Addr}
    (zx1_TooMany : PySem.W.nsIn K mainGlobals "TooMany" = some (some (.ref C_TooMany)))
    {C_Same : Addr}
    (zx1_Same : PySem.W.nsIn K mainGlobals "Same" = some (some (.ref C_Same)))
    {C_BadName : Addr}
    (zx1_BadName : PySem.W.nsIn K mainGlobals "BadName" = some (some (.ref C_BadName)))
    {C_Known : Addr}
    (zx1_Known : PySem.W.nsIn K mainGlobals "Known" = some (some (.ref C_Known)))
    {C_BadKind : Addr}
    (zx1_BadKind : PySem.W.nsIn K mainGlobals "BadKind" = some (some (.ref C_BadKind)))
    {C_Few : Addr}
    (zx1_Few : PySem.W.nsIn K mainGlobals "Few" = some (some (.ref C_Few)))
    {C_Full : Addr}
    (zx1_Full : PySem.W.nsIn K mainGlobals "Full" = some (some (.ref C_Full)))
    {C_Taken : Addr}
    (zx1_Taken : PySem.W.nsIn K mainGlobals "Taken" = some (some (.ref C_Taken)))
    {C_NoFigure : Addr}
    (zx1_NoFigure : PySem.W.nsIn K mainGlobals "NoFigure" = some (some (.ref C_NoFigure)))
    {C_NoSet : Addr}
    (zx1_NoSet : PySem.W.nsIn K mainGlobals "NoSet" = some (some (.ref C_NoSet)))
    {C_NoCouple : Addr}
    (zx1_NoCouple : PySem.W.nsIn K mainGlobals "NoCouple" = some (some (.ref C_NoCouple)))
    {C_WrongSize : Addr}
    (zx1_WrongSize : PySem.W.nsIn K mainGlobals "WrongSize" = some (some (.ref C_WrongSize)))
    {C_Fixed : Addr}
    (zx1_Fixed : PySem.W.nsIn K mainGlobals "Fixed" = some (some (.ref C_Fixed)))
    {C_Last : Addr}
    (zx1_Last : PySem.W.nsIn K mainGlobals "Last" = some (some (.ref C_Last)))
    {C_NoEntry : Addr}
    (zx1_NoEntry : PySem.W.nsIn K mainGlobals "NoEntry" = some (some (.ref C_NoEntry)))
    {C_NotDanced : Addr}
    (zx1_NotDanced : PySem.W.nsIn K mainGlobals "NotDanced" = some (some (.ref C_NotDanced)))
    {C_NothingLeft : Addr}
    (zx1_NothingLeft : PySem.W.nsIn K mainGlobals "NothingLeft" = some (some (.ref C_NothingLeft)))
    {C_Clash : Addr}
    (zx1_Clash : PySem.W.nsIn K mainGlobals "Clash" = some (some (.ref C_Clash)))
    {C_NotOn : Addr}
    (zx1_NotOn : PySem.W.nsIn K mainGlobals "NotOn" = some (some (.ref C_NotOn)))
    {C_BadText : Addr}
    (zx1_BadText : PySem.W.nsIn K mainGlobals "BadText" = some (some (.ref C_BadText)))
    {C_DanceError : Addr}
    (zx1_DanceError : PySem.W.nsIn K mainGlobals "DanceError" = some (some (.ref C_DanceError)))
    (zq0_BadSpots : PySem.W.exmOne K (.ref C_BadSpots) (.ref C_Clash) = some false)
    (zq1_BadSpots : PySem.W.exmOne K (.ref C_BadSpots) (.ref C_NotOn) = some false)
    (zq2_BadSpots : PySem.W.exmOne K (.ref C_BadSpots) (.ref C_BadText) = some false)
    (zq3_BadSpots : PySem.W.exmOne K (.ref C_BadSpots) (.ref C_DanceError) = some true)
    (zq4_BadSpots : PySem.W.findIn K (.ref C_BadSpots) "__getattribute__" = some (some (.builtin "BaseException.__getattribute__")))
    (zq5_BadSpots : PySem.W.findIn K (.ref C_BadSpots) "__getattr__" = some none)
    (zq6_BadSpots : PySem.W.hasDictIn K C_BadSpots = true)
    (zq7_BadSpots : PySem.W.findIn K (.ref C_BadSpots) "__class__" = some (some (.builtin "object.__class__")))
    (zq8_BadSpots : PySem.W.mroIn K C_BadSpots (.type "object") = some true)
    (zr_BadSpots : ([C_BadSpots, C_BadWay, C_BadCall, C_BadBar, C_BadFigure, C_BadNumber, C_TooMany, C_Same, C_BadName, C_Known, C_BadKind, C_Few, C_Full, C_Taken, C_NoFigure, C_NoSet, C_NoCouple, C_WrongSize, C_Fixed, C_Last, C_NoEntry, C_NotDanced, C_NothingLeft].map fun c => PySem.W.kitOne K (.ref C_BadSpots) (.ref c)) = ([true, false, false, false, false, false, false, false, false, false, false, false, false, false, false, false, false, false, false, false, false, false, false].map some))
    (zq0_BadWay : PySem.W.exmOne K (.ref C_BadWay) (.ref C_Clash) = some false)
    (zq1_BadWay : PySem.W.exmOne K (.ref C_BadWay) (.ref C_NotOn) = some false)
    (zq2_BadWay : PySem.W.exmOne K (.ref C_BadWay) (.ref C_BadText) = some false)
    (zq3_BadWay : PySem.W.exmOne K (.ref C_BadWay) (.ref C_DanceError) = some true)
    (zq4_BadWay : PySem.W.findIn K (.ref C_BadWay) "__getattribute__" = some (some (.builtin "BaseException.__getattribute__")))
    (zq5_BadWay : PySem.W.findIn K (.ref C_BadWay) "__getattr__" = some none)
    (zq6_BadWay : PySem.W.hasDictIn K C_BadWay = true)
    (zq7_BadWay : PySem.W.findIn K (.ref C_BadWay) "__class__" = some (some (.builtin "object.__class__")))
    (zq8_BadWay : PySem.W.mroIn K C_BadWay (.type "object") = some true)
    (zr_BadWay : ([C_BadSpots, C_BadWay, C_BadCall, C_BadBar, C_BadFigure, C_BadNumber, C_TooMany, C_Same, C_BadName, C_Known, C_BadKind, C_Few, C_Full, C_Taken, C_NoFigure, C_NoSet, C_NoCouple, C_WrongSize, C_Fixed, C_Last, C_NoEntry, C_NotDanced, C_NothingLeft].map fun c => PySem.W.kitOne K (.ref C_BadWay) (.ref c)) = ([false, true, false, false, false, false, false, false, false, false, false, false, false, false, false, false, false, false, false, false, false, false, false].map some))
    (zs0 : PySem.W.specialIn K (.builtin "object.__class__") "__get__" = some (some (.builtin "getset_descriptor.__get__")))
    (zs1 : PySem.W.takesIn K (.builtin "object.__class__") = some true)
    {A_look_spots : Addr} {oc_look_spots kV_look_spots dc_look_spots pm_look_spots cd_look_spots ct_look_spots : Value} {od_look_spots an_look_spots : Option Addr} {sl_look_spots : Array (Option Value)}
    (z1_look_spots : PySem.W.nsIn K mainGlobals "look_spots" = some (some (.ref A_look_spots)))
    (z2_look_spots : K.lookup A_look_spots = some ⟨oc_look_spots, od_look_spots, .func (PySem.W.fnOf "look_spots" "look_spots" (defArgs (top 31)) (defBody (top 31)) (defScope (top 31)) .none kV_look_spots dc_look_spots pm_look_spots an_look_spots cd_look_spots ct_look_spots), sl_look_spots⟩)
    (z3_look_spots : PySem.W.codeIn K cd_look_spots "look_spots" = true)
    (z4_look_spots : PySem.W.keepIn K (.ref A_look_spots) = true)
    {A_still : Addr} {oc_still kV_still dc_still pm_still cd_still ct_still : Value} {od_still an_still : Option Addr} {sl_still : Array (Option Value)}
    (z1_still : PySem.W.nsIn K mainGlobals "still" = some (some (.ref A_still)))
    (z2_still : K.lookup A_still = some ⟨oc_still, od_still, .func (PySem.W.fnOf "still" "still" (defArgs (top 32)) (defBody (top 32)) (defScope (top 32)) .none kV_still dc_still pm_still an_still cd_still ct_still), sl_still⟩)
    (z3_still : PySem.W.codeIn K cd_still "still" = true)
    (z4_still : PySem.W.keepIn K (.ref A_still) = true)
    {A_look_way : Addr} {oc_look_way kV_look_way dc_look_way pm_look_way cd_look_way ct_look_way : Value} {od_look_way an_look_way : Option Addr} {sl_look_way : Array (Option Value)}
    (z1_look_way : PySem.W.nsIn K mainGlobals "look_way" = some (some (.ref A_look_way)))
    (z2_look_way : K.lookup A_look_way = some ⟨oc_look_way, od_look_way, .func (PySem.W.fnOf "look_way" "look_way" (defArgs (top 33)) (defBody (top 33)) (defScope (top 33)) .none kV_look_way dc_look_way pm_look_way an_look_way cd_look_way ct_look_way), sl_look_way⟩)
    (z3_look_way : PySem.W.codeIn K cd_look_way "look_way" = true)
    (z4_look_way : PySem.W.keepIn K (.ref A_look_way) = true)
    {A_then : Addr} {oc_then kV_then dc_then pm_then cd_then ct_then : Value} {od_then an_then : Option Addr} {sl_then : Array (Option Value)}
    (z1_then : PySem.W.nsIn K mainGlobals "then" = some (some (.ref A_then)))
    (z2_then : K.lookup A_then = some ⟨oc_then, od_then, .func (PySem.W.fnOf "then" "then" (defArgs (top 34)) (defBody (top 34)) (defScope (top 34)) .none kV_then dc_then pm_then an_then cd_then ct_then), sl_then⟩)
    (z3_then : PySem.W.codeIn K cd_then "then" = true)
    (z4_then : PySem.W.keepIn K (.ref A_then) = true)
    {A_undone : Addr} {oc_undone kV_undone dc_undone pm_undone cd_undone ct_undone : Value} {od_undone an_undone : Option Addr} {sl_undone : Array (Option Value)}
    (z1_undone : PySem.W.nsIn K mainGlobals "undone" = some (some (.ref A_undone)))
    (z2_undone : K.lookup A_undone = some ⟨oc_undone, od_undone, .func (PySem.W.fnOf "undone" "undone" (defArgs (top 35)) (defBody (top 35)) (defScope (top 35)) .none kV_undone dc_undone pm_undone an_undone cd_undone ct_undone), sl_undone⟩)
    (z3_undone : PySem.W.codeIn K cd_undone "undone" = true)
    (z4_undone : PySem.W.keepIn K (.ref A_undone) = true)
    {A__law_numbers : Addr} {oc__law_numbers kV__law_numbers dc__law_numbers pm__law_numbers cd__law_numbers ct__law_numbers : Value} {od__law_numbers an__law_numbers : Option Addr} {sl__law_numbers : Array (Option Value)}
    (z1__law_numbers : PySem.W.nsIn K mainGlobals "_law_numbers" = some (some (.ref A__law_numbers)))
    (z2__law_numbers : K.lookup A__law_numbers = some ⟨oc__law_numbers, od__law_numbers, .func (PySem.W.fnOf "_law_numbers" "_law_numbers" (defArgs (top 37)) (defBody (top 37)) (defScope (top 37)) .none kV__law_numbers dc__law_numbers pm__law_numbers an__law_numbers cd__law_numbers ct__law_numbers), sl__law_numbers⟩)
    (z3__law_numbers : PySem.W.codeIn K cd__law_numbers "_law_numbers" = true)
    (z4__law_numbers : PySem.W.keepIn K (.ref A__law_numbers) = true)
    {A__law_same : Addr} {oc__law_same kV__law_same dc__law_same pm__law_same cd__law_same ct__law_same : Value} {od__law_same an__law_same : Option Addr} {sl__law_same : Array (Option Value)}
    (z1__law_same : PySem.W.nsIn K mainGlobals "_law_same" = some (some (.ref A__law_same)))
    (z2__law_same : K.lookup A__law_same = some ⟨oc__law_same, od__law_same, .func (PySem.W.fnOf "_law_same" "_law_same" (defArgs (top 38)) (defBody (top 38)) (defScope (top 38)) .none kV__law_same dc__law_same pm__law_same an__law_same cd__law_same ct__law_same), sl__law_same⟩)
    (z3__law_same : PySem.W.codeIn K cd__law_same "_law_same" = true)
    (z4__law_same : PySem.W.keepIn K (.ref A__law_same) = true)
    {A__law_marks : Addr} {oc__law_marks kV__law_marks dc__law_marks pm__law_marks cd__law_marks ct__law_marks : Value} {od__law_marks an__law_marks : Option Addr} {sl__law_marks : Array (Option Value)}
    (z1__law_marks : PySem.W.nsIn K mainGlobals "_law_marks" = some (some (.ref A__law_marks)))
    (z2__law_marks : K.lookup A__law_marks = some ⟨oc__law_marks, od__law_marks, .func (PySem.W.fnOf "_law_marks" "_law_marks" (defArgs (top 39)) (defBody (top 39)) (defScope (top 39)) .none kV__law_marks dc__law_marks pm__law_marks an__law_marks cd__law_marks ct__law_marks), sl__law_marks⟩)
    (z3__law_marks : PySem.W.codeIn K cd__law_marks "_law_marks" = true)
    (z4__law_marks : PySem.W.keepIn K (.ref A__law_marks) = true)
    {A__law_marked : Addr} {oc__law_marked kV__law_marked dc__law_marked pm__law_marked cd__law_marked ct__law_marked : Value} {od__law_marked an__law_marked : Option Addr} {sl__law_marked : Array (Option Value)}
    (z1__law_marked : PySem.W.nsIn K mainGlobals "_law_marked" = some (some (.ref A__law_marked)))
    (z2__law_marked : K.lookup A__law_marked = some ⟨oc__law_marked, od__law_marked, .func (PySem.W.fnOf "_law_marked" "_law_marked" (defArgs (top 40)) (defBody (top 40)) (defScope (top 40)) .none kV__law_marked dc__law_marked pm__law_marked an__law_marked cd__law_marked ct__law_marked), sl__law_marked⟩)
    (z3__law_marked : PySem.W.codeIn K cd__law_marked "_law_marked" = true)
    (z4__law_marked : PySem.W.keepIn K (.ref A__law_marked) = true)
    {A__law_tried : Addr} {oc__law_tried kV__law_tried dc__law_tried pm__law_tried cd__law_tried ct__law_tried : Value} {od__law_tried an__law_tried : Option Addr} {sl__law_tried : Array (Option Value)}
    (z1__law_tried : PySem.W.nsIn K mainGlobals "_law_tried" = some (some (.ref A__law_tried)))
    (z2__law_tried : K.lookup A__law_tried = some ⟨oc__law_tried, od__law_tried, .func (PySem.W.fnOf "_law_tried" "_law_tried" (defArgs (top 41)) (defBody (top 41)) (defScope (top 41)) .none kV__law_tried dc__law_tried pm__law_tried an__law_tried cd__law_tried ct__law_tried), sl__law_tried⟩)
    (z3__law_tried : PySem.W.codeIn K cd__law_tried "_law_tried" = true)
    (z4__law_tried : PySem.W.keepIn K (.ref A__law_tried) = true)
    {A__law_spots : Addr} {oc__law_spots kV__law_spots dc__law_spots pm__law_spots cd__law_spots ct__law_spots : Value} {od__law_spots an__law_spots : Option Addr} {sl__law_spots : Array (Option Value)}
    (z1__law_spots : PySem.W.nsIn K mainGlobals "_law_spots" = some (some (.ref A__law_spots)))
    (z2__law_spots : K.lookup A__law_spots = some ⟨oc__law_spots, od__law_spots, .func (PySem.W.fnOf "_law_spots" "_law_spots" (defArgs (top 42)) (defBody (top 42)) (defScope (top 42)) .none kV__law_spots dc__law_spots pm__law_spots an__law_spots cd__law_spots ct__law_spots), sl__law_spots⟩)
    (z3__law_spots : PySem.W.codeIn K cd__law_spots "_law_spots" = true)
    (z4__law_spots : PySem.W.keepIn K (.ref A__law_spots) = true)
    {A__law_any_spots : Addr} {oc__law_any_spots kV__law_any_spots dc__law_any_spots pm__law_any_spots cd__law_any_spots ct__law_any_spots : Value} {od__law_any_spots an__law_any_spots : Option Addr} {sl__law_any_spots : Array (Option Value)}
    (z1__law_any_spots : PySem.W.nsIn K mainGlobals "_law_any_spots" = some (some (.ref A__law_any_spots)))
    (z2__law_any_spots : K.lookup A__law_any_spots = some ⟨oc__law_any_spots, od__law_any_spots, .func (PySem.W.fnOf "_law_any_spots" "_law_any_spots" (defArgs (top 43)) (defBody (top 43)) (defScope (top 43)) .none kV__law_any_spots dc__law_any_spots pm__law_any_spots an__law_any_spots cd__law_any_spots ct__law_any_spots), sl__law_any_spots⟩)
    (z3__law_any_spots : PySem.W.codeIn K cd__law_any_spots "_law_any_spots" = true)
    (z4__law_any_spots : PySem.W.keepIn K (.ref A__law_any_spots) = true)
    {A__law_mixed : Addr} {oc__law_mixed kV__law_mixed dc__law_mixed pm__law_mixed cd__law_mixed ct__law_mixed : Value} {od__law_mixed an__law_mixed : Option Addr} {sl__law_mixed : Array (Option Value)}
    (z1__law_mixed : PySem.W.nsIn K mainGlobals "_law_mixed" = some (some (.ref A__law_mixed)))
    (z2__law_mixed : K.lookup A__law_mixed = some ⟨oc__law_mixed, od__law_mixed, .func (PySem.W.fnOf "_law_mixed" "_law_mixed" (defArgs (top 44)) (defBody (top 44)) (defScope (top 44)) .none kV__law_mixed dc__law_mixed pm__law_mixed an__law_mixed cd__law_mixed ct__law_mixed), sl__law_mixed⟩)
    (z3__law_mixed : PySem.W.codeIn K cd__law_mixed "_law_mixed" = true)
    (z4__law_mixed : PySem.W.keepIn K (.ref A__law_mixed) = true)
    {A__law_bent : Addr} {oc__law_bent kV__law_bent dc__law_bent pm__law_bent cd__law_bent ct__law_bent : Value} {od__law_bent an__law_bent : Option Addr} {sl__law_bent : Array (Option Value)}
    (z1__law_bent : PySem.W.nsIn K mainGlobals "_law_bent" = some (some (.ref A__law_bent)))
    (z2__law_bent : K.lookup A__law_bent = some ⟨oc__law_bent, od__law_bent, .func (PySem.W.fnOf "_law_bent" "_law_bent" (defArgs (top 45)) (defBody (top 45)) (defScope (top 45)) .none kV__law_bent dc__law_bent pm__law_bent an__law_bent cd__law_bent ct__law_bent), sl__law_bent⟩)
    (z3__law_bent : PySem.W.codeIn K cd__law_bent "_law_bent" = true)
    (z4__law_bent : PySem.W.keepIn K (.ref A__law_bent) = true)
    {A_law c_law P_law : Addr} {oc_law kV_law dc_law pm_law ct_law : Value} {od_law an_law td_law : Option Addr} {sl_law ts_law : Array (Option Value)} {tv_law : Array Value}
    (z1_law : PySem.W.nsIn K mainGlobals "law" = some (some (.ref A_law)))
    (z2_law : K.lookup A_law = some ⟨oc_law, od_law, .func (PySem.W.fnOf "law" "law" (defArgs (top 46)) (defBody (top 46)) (defScope (top 46)) .none kV_law dc_law pm_law an_law (.ref c_law) ct_law), sl_law⟩)
    (z3_law : PySem.W.codeIn K (.ref c_law) "law" = true)
    (z4_law : PySem.W.keepIn K (.ref A_law) = true)
    (zt0_law : K.lookup c_law = some ⟨.type "code", td_law, .fields tv_law, ts_law⟩)
    (zt1_law : tv_law[11]? = some (.ref P_law))
    (zt2_law : PySem.W.codeHdIn K c_law P_law = true)
    (zt3_law : K.lookup P_law = none)
    (zt4_law : h.get? P_law = some { cls := .none, data := .fields #[] })
    : ∃ (fd : FuncData) (cs : List (Addr × Addr × Str)), (∀ p ∈ cs, h.get? p.2.1 = some { cls := .none, data := .fields #[] } ∧ K.lookup p.2.1 = none ∧ PySem.W.CodeHd h p.1 p.2.1) ∧ (∀ (s : Shared) (v : Value), BindsTo s fd ⟨[v], []⟩ [("_law_script", v)]) ∧ ∀ base : Heap, K.In base → base.Ns mainGlobals mg → (∀ p ∈ cs, LamX.TabB base mg p.1 p.2.1) → FnOk P w K mg base (L2N.CX P w) 14 fa fd ["_law_script"] (@spF ⟨cs.map fun p => (p.2.1, p.2.2)⟩ K mg 1 F_law) := by
  have e := hfa.symm.trans (PySem.W.mg_of X G z1_law)
  cases e
  have F_look_spots := fun_mk (st := top 31) z2_look_spots z3_look_spots z4_look_spots
  have B_look_spots := F_look_spots.binds (ps := ["spots"]) fun _ _ _ _ _ _ us hl => match us, hl with | [_], _ => rfl
  have F_still := fun_mk (st := top 32) z2_still z3_still z4_still
  have B_still := F_still.binds (ps := ["spots"]) fun _ _ _ _ _ _ us hl => match us, hl with | [_], _ => rfl
  have F_look_way := fun_mk (st := top 33) z2_look_way z3_look_way z4_look_way
  have B_look_way := F_look_way.binds (ps := ["spots", "way"]) fun _ _ _ _ _ _ us hl => match us, hl with | [_, _], _ => rfl
  have F_then := fun_mk (st := top 34) z2_then z3_then z4_then
  have B_then := F_then.binds (ps := ["spots", "one", "other"]) fun _ _ _ _ _ _ us hl => match us, hl with | [_, _, _], _ => rfl
  have F_undone := fun_mk (st := top 35) z2_undone z3_undone z4_undone
  have B_undone := F_undone.binds (ps := ["spots", "way"]) fun _ _ _ _ _ _ us hl => match us, hl with | [_, _], _ => rfl
  have F__law_numbers := fun_mk (st := top 37) z2__law_numbers z3__law_numbers z4__law_numbers
  have B__law_numbers := F__law_numbers.binds (ps := ["_law_script", "_law_many"]) fun _ _ _ _ _ _ us hl => match us, hl with | [_, _], _ => rfl
  have F__law_same := fun_mk (st := top 38) z2__law_same z3__law_same z4__law_same
  have B__law_same := F__law_same.binds (ps := ["_law_found", "_law_due"]) fun _ _ _ _ _ _ us hl => match us, hl with | [_, _], _ => rfl
  have F__law_marks := fun_mk (st := top 39) z2__law_marks z3__law_marks z4__law_marks
  have B__law_marks := F__law_marks.binds (ps := ["_law_e"]) fun _ _ _ _ _ _ us hl => match us, hl with | [_], _ => rfl
  have F__law_marked := fun_mk (st := top 40) z2__law_marked z3__law_marked z4__law_marked
  have B__law_marked := F__law_marked.binds (ps := ["_law_marks_here"]) fun _ _ _ _ _ _ us hl => match us, hl with | [_], _ => rfl
  have F__law_tried := fun_mk (st := top 41) z2__law_tried z3__law_tried z4__law_tried
  have B__law_tried := F__law_tried.binds (ps := ["_law_ask"]) fun _ _ _ _ _ _ us hl => match us, hl with | [_], _ => rfl
  have F__law_spots := fun_mk (st := top 42) z2__law_spots z3__law_spots z4__law_spots
  have B__law_spots := F__law_spots.binds (ps := ["_law_d"]) fun _ _ _ _ _ _ us hl => match us, hl with | [_], _ => rfl
  have F__law_any_spots := fun_mk (st := top 43) z2__law_any_spots z3__law_any_spots z4__law_any_spots
  have B__law_any_spots := F__law_any_spots.binds (ps := ["_law_number"]) fun _ _ _ _ _ _ us hl => match us, hl with | [_], _ => rfl
  have F__law_mixed := fun_mk (st := top 44) z2__law_mixed z3__law_mixed z4__law_mixed
  have B__law_mixed := F__law_mixed.binds (ps := ["_law_d", "_law_many"]) fun _ _ _ _ _ _ us hl => match us, hl with | [_, _], _ => rfl
  have F__law_bent := fun_mk (st := top 45) z2__law_bent z3__law_bent z4__law_bent
  have B__law_bent := F__law_bent.binds (ps := ["_law_way", "_law_d"]) fun _ _ _ _ _ _ us hl => match us, hl with | [_, _], _ => rfl
  have F_law := FunC.of (st := top 46) z2_law z3_law z4_law
  refine ⟨PySem.W.fnOf "law" "law" (defArgs (top 46)) (defBody (top 46)) (defScope (top 46)) .none kV_law dc_law pm_law an_law (.ref c_law) ct_law, [(c_law, P_law, ((("law" : Str) ++ ".<locals>.") ++ "<lambda>"))], (List.forall_mem_cons.mpr ⟨⟨zt4_law, zt3_law, PySem.W.codeHd_of_K X zt2_law⟩, (fun _ h => nomatch h)⟩), fun s v => .of_eq rfl, fun base hK hG hB => ?_⟩
  letI tb : Tb := ⟨[(P_law, ((("law" : Str) ++ ".<locals>.") ++ "<lambda>"))]⟩
  have L_law : LamF base mg (.ref c_law) ((("law" : Str) ++ ".<locals>.") ++ "<lambda>") := lamF_of (P := P_law) (hB (c_law, P_law, ((("law" : Str) ++ ".<locals>.") ++ "<lambda>")) (List.mem_cons_self)) (List.mem_cons_self) (List.forall_mem_cons.mpr ⟨fun _ => rfl, (fun _ h => nomatch h)⟩)
  have T : Tx w K mg base := {
    tr := ⟨.ref C_Clash, .ref C_NotOn, .ref C_BadText, .ref C_DanceError, [C_BadSpots, C_BadWay, C_BadCall, C_BadBar, C_BadFigure, C_BadNumber, C_TooMany, C_Same, C_BadName, C_Known, C_BadKind, C_Few, C_Full, C_Taken, C_NoFigure, C_NoSet, C_NoCouple, C_WrongSize, C_Fixed, C_Last, C_NoEntry, C_NotDanced, C_NothingLeft], PySem.W.mg_of X G zx1_Clash, PySem.W.mg_of X G zx1_NotOn, PySem.W.mg_of X G zx1_BadText, PySem.W.mg_of X G zx1_DanceError, (Tri.ClsRow.cons (PySem.W.mg_of X G zx1_BadSpots) (Tri.ClsRow.cons (PySem.W.mg_of X G zx1_BadWay) (Tri.ClsRow.cons (PySem.W.mg_of X G zx1_BadCall) (Tri.ClsRow.cons (PySem.W.mg_of X G zx1_BadBar) (Tri.ClsRow.cons (PySem.W.mg_of X G zx1_BadFigure) (Tri.ClsRow.cons (PySem.W.mg_of X G zx1_BadNumber) (Tri.ClsRow.cons (PySem.W.mg_of X G zx1_TooMany) (Tri.ClsRow.cons (PySem.W.mg_of X G zx1_Same) (Tri.ClsRow.cons (PySem.W.mg_of X G zx1_BadName) (Tri.ClsRow.cons (PySem.W.mg_of X G zx1_Known) (Tri.ClsRow.cons (PySem.W.mg_of X G zx1_BadKind) (Tri.ClsRow.cons (PySem.W.mg_of X G zx1_Few) (Tri.ClsRow.cons (PySem.W.mg_of X G zx1_Full) (Tri.ClsRow.cons (PySem.W.mg_of X G zx1_Taken) (Tri.ClsRow.cons (PySem.W.mg_of X G zx1_NoFigure) (Tri.ClsRow.cons (PySem.W.mg_of X G zx1_NoSet) (Tri.ClsRow.cons (PySem.W.mg_of X G zx1_NoCouple) (Tri.ClsRow.cons (PySem.W.mg_of X G zx1_WrongSize) (Tri.ClsRow.cons (PySem.W.mg_of X G zx1_Fixed) (Tri.ClsRow.cons (PySem.W.mg_of X G zx1_Last) (Tri.ClsRow.cons (PySem.W.mg_of X G zx1_NoEntry) (Tri.ClsRow.cons (PySem.W.mg_of X G zx1_NotDanced) (Tri.ClsRow.cons (PySem.W.mg_of X G zx1_NothingLeft) Tri.ClsRow.nil))))))))))))))))))))))), rfl, (List.forall_mem_cons.mpr ⟨⟨C_BadSpots, PySem.W.mg_of X G zx1_BadSpots, zq0_BadSpots, zq1_BadSpots, zq2_BadSpots, zq3_BadSpots, ⟨zq4_BadSpots, zq5_BadSpots, zx4_BadSpots, zq6_BadSpots, zq7_BadSpots, zs0, zs1, zq8_BadSpots⟩, zr_BadSpots⟩, (List.forall_mem_cons.mpr ⟨⟨C_BadWay, PySem.W.mg_of X G zx1_BadWay, zq0_BadWay, zq1_BadWay, zq2_BadWay, zq3_BadWay, ⟨zq4_BadWay, zq5_BadWay, zx4_BadWay, zq6_BadWay, zq7_BadWay, zs0, zs1, zq8_BadWay⟩, zr_BadWay⟩, (fun _ h => nomatch h)⟩)⟩)⟩,
    b_all := PySem.W.mg_none_of X G zb_all,
    b_bool := PySem.W.mg_none_of X G zb_bool,
    b_enumerate := PySem.W.mg_none_of X G zb_enumerate,
    b_int := PySem.W.mg_none_of X G zb_int,
    b_isinstance := PySem.W.mg_none_of X G zb_isinstance,
    b_len := PySem.W.mg_none_of X G zb_len,
    b_list := PySem.W.mg_none_of X G zb_list,
    b_min := PySem.W.mg_none_of X G zb_min,
    b_range := PySem.W.mg_none_of X G zb_range,
    b_sorted := PySem.W.mg_none_of X G zb_sorted,
    b_str := PySem.W.mg_none_of X G zb_str,
    b_tuple := PySem.W.mg_none_of X G zb_tuple,
    b_zip := PySem.W.mg_none_of X G zb_zip,
    c_LEAST_SPOTS := ⟨_, PySem.W.mg_of X G zc_LEAST_SPOTS⟩,
    c_MOST_SPOTS := ⟨_, PySem.W.mg_of X G zc_MOST_SPOTS⟩,
    x_BadSpots := ⟨C_BadSpots, PySem.W.mg_of X G zx1_BadSpots, zx2_BadSpots, zx3_BadSpots, zx4_BadSpots, zx5_BadSpots⟩,
    x_BadWay := ⟨C_BadWay, PySem.W.mg_of X G zx1_BadWay, zx2_BadWay, zx3_BadWay, zx4_BadWay, zx5_BadWay⟩,
    f_look_spots := ⟨A_look_spots, _, PySem.W.mg_of X G z1_look_spots, F_look_spots, B_look_spots⟩,
    f_still := ⟨A_still, _, PySem.W.mg_of X G z1_still, F_still, B_still⟩,
    f_look_way := ⟨A_look_way, _, PySem.W.mg_of X G z1_look_way, F_look_way, B_look_way⟩,
    f_then := ⟨A_then, _, PySem.W.mg_of X G z1_then, F_then, B_then⟩,
    f_undone := ⟨A_undone, _, PySem.W.mg_of X G z1_undone, F_undone, B_undone⟩,
    f__law_numbers := ⟨A__law_numbers, _, PySem.W.mg_of X G z1__law_numbers, F__law_numbers, B__law_numbers⟩,
    f__law_same := ⟨A__law_same, _, PySem.W.mg_of X G z1__law_same, F__law_same, B__law_same⟩,
    f__law_marks := ⟨A__law_marks, _, PySem.W.mg_of X G z1__law_marks, F__law_marks, B__law_marks⟩,
    f__law_marked := ⟨A__law_marked, _, PySem.W.mg_of X G z1__law_marked, F__law_marked, B__law_marked⟩,
    f__law_tried := ⟨A__law_tried, _, PySem.W.mg_of X G z1__law_tried, F__law_tried, B__law_tried⟩,
    f__law_spots := ⟨A__law_spots, _, PySem.W.mg_of X G z1__law_spots, F__law_spots, B__law_spots⟩,
    f__law_any_spots := ⟨A__law_any_spots, _, PySem.W.mg_of X G z1__law_any_spots, F__law_any_spots, B__law_any_spots⟩,
    f__law_mixed := ⟨A__law_mixed, _, PySem.W.mg_of X G z1__law_mixed, F__law_mixed, B__law_mixed⟩,
    f__law_bent := ⟨A__law_bent, _, PySem.W.mg_of X G z1__law_bent, F__law_bent, B__law_bent⟩ }
  exact fn_law T F_law L_law
theorem walk {l : PySem.W.OpenLaw} {q : Program} {loose : List Str} {XP : (Str → Option Value) → Heap → Prop} {YP : World → Heap → Prop} {d : DefRec} {K : Params → PySem.W.Frag} (hn : l.most = some 63) (hdf : d.params.defaults = [])
    (hY : ∀ (w : World) (h : Heap), YP w h → (K w.params).In h)
    (F : ∀ (w : World) (mg : Str → Option Value) (fa : Addr) (h : Heap), YP w h → (K w.params).In h → h.Ns mainGlobals mg → mg d.name = some (.ref fa) →
      ∃ (fd : FuncData) (cs : List (Addr × Addr × Str)), (∀ p ∈ cs, h.get? p.2.1 = some { cls := .none, data := .fields #[] } ∧ (K w.params).lookup p.2.1 = none ∧ PySem.W.CodeHd h p.1 p.2.1) ∧ (∀ (s : Shared) (u : Value), BindsTo s fd ⟨[u], []⟩ [("_law_script", u)]) ∧
        ∀ base : Heap, (K w.params).In base → base.Ns mainGlobals mg → (∀ p ∈ cs, LamX.TabB base mg p.1 p.2.1) → FnOk l.prog w (K w.params) mg base (L2N.CX l.prog w) 14 fa fd ["_law_script"] (@spF ⟨cs.map fun p => (p.2.1, p.2.2)⟩ (K w.params) mg 1 F_law)) :
    PySem.W.WalkO q loose XP YP l.row.toRowW d [] (fun f vs => PySem.call f vs) := Ly.walk_lawT hn hdf ⟨rfl, by decide, by decide⟩ hY F law_true

end C

open PySem PySem.W PyProof.Rows
set_option maxRecDepth 100000 in
set_option maxHeartbeats 0 in
theorem PySem.Challenge.cw_longways_k02_ways_done_and_undone_holds : PySem.Challenge.rw_longways_k02_ways_done_and_undone.Holds := by
  w_on; o_law; k_head; (case hw => w_witness2)
  k_fill
  refine C.walk (l := PySem.Challenge.rw_longways_k02_ways_done_and_undone) rfl rfl (fun w h Y => PySem.W.km_in_of Y) ?F
  case F =>
    intro w mg fa h Y KX G hmg
    refine' C.all_mk KX G hmg ?zb_all ?zb_bool ?zb_enumerate ?zb_int ?zb_isinstance ?zb_len ?zb_list ?zb_min ?zb_range ?zb_sorted ?zb_str ?zb_tuple ?zb_zip ?zc_LEAST_SPOTS ?zc_MOST_SPOTS ?zx1_BadSpots ?zx2_BadSpots ?zx3_BadSpots ?zx4_BadSpots ?zx5_BadSpots ?zx1_BadWay ?zx2_BadWay ?zx3_BadWay ?zx4_BadWay ?zx5_BadWay ?zx1_BadCall ?zx1_BadBar ?zx1_BadFigure ?zx1_BadNumber ?zx1_TooMany ?zx1_Same ?zx1_BadName ?zx1_Known ?zx1_BadKind ?zx1_Few ?zx1_Full ?zx1_Taken ?zx1_NoFigure ?zx1_NoSet ?zx1_NoCouple ?zx1_WrongSize ?zx1_Fixed ?zx1_Last ?zx1_NoEntry ?zx1_NotDanced ?zx1_NothingLeft ?zx1_Clash ?zx1_NotOn ?zx1_BadText ?zx1_DanceError ?zq0_BadSpots ?zq1_BadSpots ?zq2_BadSpots ?zq3_BadSpots ?zq4_BadSpots ?zq5_BadSpots ?zq6_BadSpots ?zq7_BadSpots ?zq8_BadSpots ?zr_BadSpots ?zq0_BadWay ?zq1_BadWay ?zq2_BadWay ?zq3_BadWay ?zq4_BadWay ?zq5_BadWay ?zq6_BadWay ?zq7_BadWay ?zq8_BadWay ?zr_BadWay ?zs0 ?zs1 ?z1_look_spots ?z2_look_spots ?z3_look_spots ?z4_look_spots ?z1_still ?z2_still ?z3_still ?z4_still ?z1_look_way ?z2_look_way ?z3_look_way ?z4_look_way ?z1_then ?z2_then ?z3_then ?z4_then ?z1_undone ?z2_undone ?z3_undone ?z4_undone ?z1__law_numbers ?z2__law_numbers ?z3__law_numbers ?z4__law_numbers ?z1__law_same ?z2__law_same ?z3__law_same ?z4__law_same ?z1__law_marks ?z2__law_marks ?z3__law_marks ?z4__law_marks ?z1__law_marked ?z2__law_marked ?z3__law_marked ?z4__law_marked ?z1__law_tried ?z2__law_tried ?z3__law_tried ?z4__law_tried ?z1__law_spots ?z2__law_spots ?z3__law_spots ?z4__law_spots ?z1__law_any_spots ?z2__law_any_spots ?z3__law_any_spots ?z4__law_any_spots ?z1__law_mixed ?z2__law_mixed ?z3__law_mixed ?z4__law_mixed ?z1__law_bent ?z2__law_bent ?z3__law_bent ?z4__law_bent ?z1_law ?z2_law ?z3_law ?z4_law ?zt0_law ?zt1_law ?zt2_law ?zt3_law ?zt4_law
    (case zb_all => k_is)
    (case zb_bool => k_is)
    (case zb_enumerate => k_is)
    (case zb_int => k_is)
    (case zb_isinstance => k_is)
    (case zb_len => k_is)
    (case zb_list => k_is)
    (case zb_min => k_is)
    (case zb_range => k_is)
    (case zb_sorted => k_is)
    (case zb_str => k_is)
    (case zb_tuple => k_is)
    (case zb_zip => k_is)
    (case zc_LEAST_SPOTS => k_is)
    (case zc_MOST_SPOTS => k_is)
    (case zx1_BadSpots => k_is)
    (case zx2_BadSpots => k_exc)
    (case zx3_BadSpots => k_is)
    (case zx4_BadSpots => k_is)
    (case zx5_BadSpots => k_is)
    (case zx1_BadWay => k_is)
    (case zx2_BadWay => k_exc)
    (case zx3_BadWay => k_is)
    (case zx4_BadWay => k_is)
    (case zx5_BadWay => k_is)
    (case zx1_BadCall => k_is)
    (case zx1_BadBar => k_is)
    (case zx1_BadFigure => k_is)
    (case zx1_BadNumber => k_is)
    (case zx1_TooMany => k_is)
    (case zx1_Same => k_is)
    (case zx1_BadName => k_is)
    (case zx1_Known => k_is)
    (case zx1_BadKind => k_is)
    (case zx1_Few => k_is)
    (case zx1_Full => k_is)
    (case zx1_Taken => k_is)
    (case zx1_NoFigure => k_is)
    (case zx1_NoSet => k_is)
    (case zx1_NoCouple => k_is)
    (case zx1_WrongSize => k_is)
    (case zx1_Fixed => k_is)
    (case zx1_Last => k_is)
    (case zx1_NoEntry => k_is)
    (case zx1_NotDanced => k_is)
    (case zx1_NothingLeft => k_is)
    (case zx1_Clash => k_is)
    (case zx1_NotOn => k_is)
    (case zx1_BadText => k_is)
    (case zx1_DanceError => k_is)
    (case zq0_BadSpots => kernel_rfl)
    (case zq1_BadSpots => kernel_rfl)
    (case zq2_BadSpots => kernel_rfl)
    (case zq3_BadSpots => kernel_rfl)
    (case zq4_BadSpots => k_is)
    (case zq5_BadSpots => k_is)
    (case zq6_BadSpots => kernel_rfl)
    (case zq7_BadSpots => k_is)
    (case zq8_BadSpots => k_is)
    (case zr_BadSpots => kernel_rfl)
    (case zq0_BadWay => kernel_rfl)
    (case zq1_BadWay => kernel_rfl)
    (case zq2_BadWay => kernel_rfl)
    (case zq3_BadWay => kernel_rfl)
    (case zq4_BadWay => k_is)
    (case zq5_BadWay => k_is)
    (case zq6_BadWay => kernel_rfl)
    (case zq7_BadWay => k_is)
    (case zq8_BadWay => k_is)
    (case zr_BadWay => kernel_rfl)
    (case zs0 => k_is)
    (case zs1 => k_is)
    (case z1_look_spots => k_is)
    (case z2_look_spots => k_is)
    (case z3_look_spots => k_is)
    (case z4_look_spots => k_is)
    (case z1_still => k_is)
    (case z2_still => k_is)
    (case z3_still => k_is)
    (case z4_still => k_is)
    (case z1_look_way => k_is)
    (case z2_look_way => k_is)
    (case z3_look_way => k_is)
    (case z4_look_way => k_is)
    (case z1_then => k_is)
    (case z2_then => k_is)
    (case z3_then => k_is)
    (case z4_then => k_is)
    (case z1_undone => k_is)
    (case z2_undone => k_is)
    (case z3_undone => k_is)
    (case z4_undone => k_is)
    (case z1__law_numbers => k_is)
    (case z2__law_numbers => k_is)
    (case z3__law_numbers => k_is)
    (case z4__law_numbers => k_is)
    (case z1__law_same => k_is)
    (case z2__law_same => k_is)
    (case z3__law_same => k_is)
    (case z4__law_same => k_is)
    (case z1__law_marks => k_is)
    (case z2__law_marks => k_is)
    (case z3__law_marks => k_is)
    (case z4__law_marks => k_is)
    (case z1__law_marked => k_is)
    (case z2__law_marked => k_is)
    (case z3__law_marked => k_is)
    (case z4__law_marked => k_is)
    (case z1__law_tried => k_is)
    (case z2__law_tried => k_is)
    (case z3__law_tried => k_is)
    (case z4__law_tried => k_is)
    (case z1__law_spots => k_is)
    (case z2__law_spots => k_is)
    (case z3__law_spots => k_is)
    (case z4__law_spots => k_is)
    (case z1__law_any_spots => k_is)
    (case z2__law_any_spots => k_is)
    (case z3__law_any_spots => k_is)
    (case z4__law_any_spots => k_is)
    (case z1__law_mixed => k_is)
    (case z2__law_mixed => k_is)
    (case z3__law_mixed => k_is)
    (case z4__law_mixed => k_is)
    (case z1__law_bent => k_is)
    (case z2__law_bent => k_is)
    (case z3__law_bent => k_is)
    (case z4__law_bent => k_is)
    (case z1_law => k_is)
    (case z2_law => k_is)
    (case z3_law => k_is)
    (case z4_law => k_is)
    (case zt0_law => k_is)
    (case zt1_law => rfl)
    (case zt2_law => kernel_rfl)
    (case zt3_law => kernel_rfl)
    (case zt4_law => exact PySem.W.km_tabs_of Y _ (by simp))
