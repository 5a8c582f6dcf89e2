import PyProof.Rows.All
import Wide.All
import OpenK.AllK
import Wide.FinOn
import HandS.ForMost
import HandS.ForExc
import HandS.Evl
import HandS.Defaults
import HandS.IsInst
import HandS.Exc
import HandS.ExcInit
import HandS.ExcOwn
import HandS.ExcField
import HandS.TryOnly
import HandS.WordsExc
import HandS.HeadHook2
import KE.KStateDown
import HandS.Head0
import HandS.Head1
import HandS.Head2
import HandS.HeadEnd
import HandS.HeadHook1
import PySem.Challenge.RW_momentties_k04_whole_each_span_is_met
set_option Elab.async false
set_option linter.all false
set_option maxRecDepth 100000
set_option maxHeartbeats 4000000
namespace DL
open PySem L2
open Evl (Ex)

/-! ### data -/
inductive D where
  | non | bl (b : Bool) | int (i : Int) | str (x : Str) | tup (ds : List D) | lst (ds : List D) | obj (c : Addr) (ns : List Str) (ds : List D)

mutual
inductive Rp (G : Hp) : V → D → Prop
  | non : Rp G .non .non
  | bl (b : Bool) : Rp G (.bl b) (.bl b)
  | int (i : Int) : Rp G (.int i) (.int i)
  | str (x : Str) : Rp G (.str x) (.str x)
  | tup {a : Addr} {xs : List V} {ds : List D} : G a = some (.tup xs) → RpA G xs ds → Rp G (.ref a) (.tup ds)
  | lst {a : Addr} {xs : List V} {ds : List D} : G a = some (.lst xs) → RpA G xs ds → Rp G (.ref a) (.lst ds)
  | obj {a C dx : Addr} {fs : List (Str × V)} {ns : List Str} {ds : List D} : G a = some (.ins C dx fs) → fs.map (·.1) = ns → RpA G (fs.map (·.2)) ds → Rp G (.ref a) (.obj C ns ds)
inductive RpA (G : Hp) : List V → List D → Prop
  | nil : RpA G [] []
  | cons {v : V} {vs : List V} {d : D} {ds : List D} : Rp G v d → RpA G vs ds → RpA G (v :: vs) (d :: ds)
end

mutual
theorem Rp.mono {G G' : Hp} (e : Ex G G') : ∀ {v : V} {d : D}, Rp G v d → Rp G' v d
  | _, _, .non => .non
  | _, _, .bl b => .bl b
  | _, _, .int i => .int i
  | _, _, .str x => .str x
  | _, _, .tup h r => .tup (e _ _ h) (RpA.mono e r)
  | _, _, .lst h r => .lst (e _ _ h) (RpA.mono e r)
  | _, _, .obj h n r => .obj (e _ _ h) n (RpA.mono e r)
theorem RpA.mono {G G' : Hp} (e : Ex G G') : ∀ {vs : List V} {ds : List D}, RpA G vs ds → RpA G' vs ds
  | _, _, .nil => .nil
  | _, _, .cons h r => .cons (Rp.mono e h) (RpA.mono e r)
end
section
variable {G : Hp} {v : V} {vs ws : List V} {d : D} {ds es : List D} {n : Int} {b : Bool} {x : Str}
theorem RpA.len : ∀ {vs : List V} {ds : List D}, RpA G vs ds → vs.length = ds.length
  | _, _, .nil => rfl
  | _, _, .cons _ r => congrArg (· + 1) (RpA.len r)
theorem RpA.get : ∀ {vs : List V} {ds : List D} {i : Nat} {d : D}, RpA G vs ds → ds[i]? = some d → ∃ v, vs[i]? = some v ∧ Rp G v d
  | _, _, i, _, .nil, h => by simp at h
  | _, _, 0, _, .cons r _, h => by simp at h; subst h; exact ⟨_, rfl, r⟩
  | _, _, i + 1, _, .cons _ t, h => RpA.get (i := i) t (by simpa using h)
theorem RpA.getV : ∀ {vs : List V} {ds : List D} {i : Nat} {v : V}, RpA G vs ds → vs[i]? = some v → ∃ d, ds[i]? = some d ∧ Rp G v d
  | _, _, i, _, .nil, h => by simp at h
  | _, _, 0, _, .cons r _, h => by simp at h; subst h; exact ⟨_, rfl, r⟩
  | _, _, i + 1, _, .cons _ t, h => RpA.getV (i := i) t (by simpa using h)
theorem RpA.app : ∀ {vs ws : List V} {ds es : List D}, RpA G vs ds → RpA G ws es → RpA G (vs ++ ws) (ds ++ es)
  | _, _, _, _, .nil, s => s
  | _, _, _, _, .cons r t, s => .cons r (RpA.app t s)
theorem RpA.take : ∀ {vs : List V} {ds : List D} (n : Nat), RpA G vs ds → RpA G (vs.take n) (ds.take n)
  | _, _, 0, _ => .nil
  | _, _, n + 1, .nil => .nil
  | _, _, n + 1, .cons r t => .cons r (RpA.take n t)
theorem RpA.drop : ∀ {vs : List V} {ds : List D} (n : Nat), RpA G vs ds → RpA G (vs.drop n) (ds.drop n)
  | _, _, 0, r => r
  | _, _, n + 1, .nil => .nil
  | _, _, n + 1, .cons r t => RpA.drop n t
theorem RpA.set {v : V} {d : D} (h : Rp G v d) : ∀ {vs : List V} {ds : List D} (i : Nat), RpA G vs ds → RpA G (vs.set i v) (ds.set i d)
  | _, _, _, .nil => .nil
  | _, _, 0, .cons _ t => .cons h t
  | _, _, i + 1, .cons r t => .cons r (RpA.set h i t)
theorem RpA.ints : ∀ {vs : List V} {ns : List Int}, RpA G vs (ns.map D.int) → vs = ns.map V.int
  | [], [], _ => rfl
  | v :: vs, [], h => by cases h
  | [], n :: ns, h => by cases h
  | v :: vs, n :: ns, h => by
    cases h with
    | cons h1 h2 =>
      cases h1
      rw [List.map_cons, RpA.ints h2]
theorem RpA.of_ints : ∀ (ns : List Int), RpA G (ns.map V.int) (ns.map D.int)
  | [] => .nil
  | n :: ns => .cons (.int n) (RpA.of_ints ns)
theorem rp_int (h : Rp G v (.int n)) : v = .int n := by cases h; rfl
theorem rp_bl (h : Rp G v (.bl b)) : v = .bl b := by cases h; rfl
theorem rp_str (h : Rp G v (.str x)) : v = .str x := by cases h; rfl
theorem rp_non (h : Rp G v .non) : v = .non := by cases h; rfl
theorem rp_lst (h : Rp G v (.lst ds)) : ∃ a xs, v = .ref a ∧ G a = some (.lst xs) ∧ RpA G xs ds := by
  cases h with
  | lst h1 h2 => exact ⟨_, _, rfl, h1, h2⟩
theorem rp_tup (h : Rp G v (.tup ds)) : ∃ a xs, v = .ref a ∧ G a = some (.tup xs) ∧ RpA G xs ds := by
  cases h with
  | tup h1 h2 => exact ⟨_, _, rfl, h1, h2⟩
theorem rp_obj {C : Addr} {ns : List Str} (h : Rp G v (.obj C ns ds)) : ∃ a dx fs, v = .ref a ∧ G a = some (.ins C dx fs) ∧ fs.map (·.1) = ns ∧ RpA G (fs.map (·.2)) ds := by
  cases h with
  | obj h1 h2 h3 => exact ⟨_, _, _, rfl, h1, h2, h3⟩
end

/-! ### the state -/
/-- what a slot holds: nothing told | a data value | this very value -/
inductive En where
  | unk | dat (d : D) | val (v : V)
/-! arguments -/
inductive AO (G : Hp) : List V → List En → Prop
  | nil : AO G [] []
  | dat {v : V} {vs : List V} {d : D} {as : List En} : Rp G v d → AO G vs as → AO G (v :: vs) (.dat d :: as)
  | val {v : V} {vs : List V} {as : List En} : AO G vs as → AO G (v :: vs) (.val v :: as)
theorem AO.mono {G G' : Hp} (e : Ex G G') : ∀ {vs : List V} {as : List En}, AO G vs as → AO G' vs as
  | _, _, .nil => .nil
  | _, _, .dat h r => .dat (h.mono e) (AO.mono e r)
  | _, _, .val r => .val (AO.mono e r)
theorem AO.len {G : Hp} : ∀ {vs : List V} {as : List En}, AO G vs as → vs.length = as.length
  | _, _, .nil => rfl
  | _, _, .dat _ r => congrArg (· + 1) (AO.len r)
  | _, _, .val r => congrArg (· + 1) (AO.len r)
/-- what an owned address holds: this very object | a list of data | the dice: the script at sa, its numbers ns, k of them drawn -/
inductive FO where
  | raw (o : HO) | own (ds : List D) | dice (K : PySem.W.Frag) (sa : Addr) (ns : List Int) (k : Nat) | obj (C : Addr) (ns : List Str) (as : List En) | junk
abbrev Fs := List (Addr × FO)
def EnOk (G : Hp) (x : Option V) : En → Prop
  | .unk => True
  | .dat d => ∃ v, x = some v ∧ Rp G v d
  | .val v => x = some v
def FOk (G H : Hp) (a : Addr) : FO → Prop
  | .raw o => H a = some o
  | .own ds => ∃ xs, H a = some (.lst xs) ∧ RpA G xs ds
  | .dice K sa ns k => H a = some (.lst [.ref sa, .int (k : Int)]) ∧ SqL K G sa (ns.map V.int)
  | .obj C ns as => ∃ dx fs, H a = some (.ins C dx fs) ∧ fs.map (·.1) = ns ∧ AO G (fs.map (·.2)) as
  | .junk => ∃ o, H a = some o
/-- the slots -/
def SE (G : Hp) (σ : L2.St) (es : List En) : Prop := σ.length = es.length ∧ ∀ (i : Nat) (e : En), es[i]? = some e → EnOk G (σ[i]?.join) e
/-- the owned part -/
structure SF (F : Fs) (G H : Hp) : Prop where
  gh : Ex G H
  sf : ∀ q ∈ F, G q.1 = none ∧ FOk G H q.1 q.2
  nd : (F.map (·.1)).Nodup
structure SS (es : List En) (F : Fs) (G H : Hp) (σ : L2.St) : Prop where
  f : SF F G H
  se : SE G σ es
/-- growth: what was known stays, but for the owned S -/
structure Gro (S : List Addr) (G H G2 H2 : Hp) : Prop where
  gg : Ex G G2
  gh : Ex G2 H2
  fr : ∀ a o, a ∉ S → H a = some o → H2 a = some o
  fz : ∀ a o, a ∉ S → H a = some o → G2 a = G a
def ad (F : Fs) : List Addr := F.map (·.1)

theorem EnOk.mono {G G' : Hp} (e : Ex G G') {x : Option V} {en : En} (h : EnOk G x en) : EnOk G' x en := by
  cases en with
  | unk => trivial
  | dat d => obtain ⟨v, h1, h2⟩ := h; exact ⟨v, h1, h2.mono e⟩
  | val v => exact h
theorem SE.mono {G G' : Hp} (e : Ex G G') {σ : L2.St} {es : List En} (h : SE G σ es) : SE G' σ es := ⟨h.1, fun i en q => (h.2 i en q).mono e⟩
theorem FOk.mono {G G' H H' : Hp} {a : Addr} {f : FO} (e : Ex G G') (eh : ∀ o, H a = some o → H' a = some o) (h : FOk G H a f) : FOk G' H' a f := by
  cases f with
  | raw o => exact eh o h
  | own ds => obtain ⟨xs, h1, h2⟩ := h; exact ⟨xs, eh _ h1, h2.mono e⟩
  | dice K sa ns k => exact ⟨eh _ h.1, Evl.ex_l e h.2⟩
  | obj C ns as => obtain ⟨dx, fs, h1, h2, h3⟩ := h; exact ⟨dx, fs, eh _ h1, h2, h3.mono e⟩
  | junk => obtain ⟨o, h1⟩ := h; exact ⟨o, eh _ h1⟩
theorem FOk.some {G H : Hp} {a : Addr} {f : FO} (h : FOk G H a f) : ∃ o, H a = some o := by
  cases f with
  | raw o => exact ⟨o, h⟩
  | own ds => obtain ⟨xs, h1, _⟩ := h; exact ⟨_, h1⟩
  | dice K sa ns k => exact ⟨_, h.1⟩
  | obj C ns as => obtain ⟨dx, fs, h1, _⟩ := h; exact ⟨_, h1⟩
  | junk => exact h
theorem Gro.refl {S : List Addr} {G H : Hp} (h : Ex G H) : Gro S G H G H := ⟨Evl.Ex.refl G, h, fun _ _ _ q => q, fun _ _ _ _ => rfl⟩
theorem Gro.trans {S T : List Addr} {G H G1 H1 G2 H2 : Hp} (a : Gro S G H G1 H1) (b : Gro T G1 H1 G2 H2) (ht : ∀ x ∈ T, x ∈ S ∨ H x = none) : Gro S G H G2 H2 where
  gg := a.gg.trans b.gg
  gh := b.gh
  fr := fun x o hx q => b.fr x o (fun z => (ht x z).elim hx fun n => by rw [n] at q; cases q) (a.fr x o hx q)
  fz := fun x o hx q => (b.fz x o (fun z => (ht x z).elim hx fun n => by rw [n] at q; cases q) (a.fr x o hx q)).trans (a.fz x o hx q)
theorem Gro.ex {S : List Addr} {G H G2 H2 : Hp} (g : Gro S G H G2 H2) (hS : ∀ a ∈ S, H a = none) : Ex H H2 := fun a o q => g.fr a o (fun z => by rw [hS a z] at q; cases q) q
theorem Gro.pure {G H G2 H2 : Hp} (g : Gro [] G H G2 H2) : Ex H H2 := fun a o q => g.fr a o (by simp) q
/-- a further owned address stands through it -/
theorem SF.keep {F F' R : Fs} {G H G2 H2 : Hp} (s : SF (F ++ R) G H) (g : Gro (ad F) G H G2 H2) (s2 : SF F' G2 H2) (ha : ad F' = ad F) : SF (F' ++ R) G2 H2 := by
  have nd := s.nd
  rw [List.map_append] at nd
  refine ⟨s2.gh, fun q hq => ?_, ?_⟩
  · rcases List.mem_append.mp hq with h | h
    · exact s2.sf q h
    · have h1 := s.sf q (List.mem_append_right _ h)
      obtain ⟨o, ho⟩ := h1.2.some
      have nq : q.1 ∉ ad F := fun z => by
        have z2 := (List.nodup_append.mp nd).2.2 q.1 z q.1 (List.mem_map_of_mem h)
        exact z2 rfl
      exact ⟨(g.fz q.1 o nq ho).trans h1.1, h1.2.mono g.gg fun o' e => g.fr q.1 o' nq e⟩
  · rw [List.map_append]
    have e : F'.map (·.1) = F.map (·.1) := ha
    rw [e]
    exact nd
theorem SF.left {F R : Fs} {G H : Hp} (s : SF (F ++ R) G H) : SF F G H := ⟨s.gh, fun q hq => s.sf q (List.mem_append_left _ hq), by
  have nd := s.nd
  rw [List.map_append] at nd
  exact (List.nodup_append.mp nd).1⟩
theorem SF.right {F R : Fs} {G H : Hp} (s : SF (F ++ R) G H) : SF R G H := ⟨s.gh, fun q hq => s.sf q (List.mem_append_right _ hq), by
  have nd := s.nd
  rw [List.map_append] at nd
  exact (List.nodup_append.mp nd).2.1⟩
theorem SF.nil {G H : Hp} (h : Ex G H) : SF [] G H := ⟨h, fun q hq => (by cases hq), List.nodup_nil⟩
theorem Gro.wide {S T : List Addr} {G H G2 H2 : Hp} (g : Gro S G H G2 H2) (h : ∀ x ∈ S, x ∈ T) : Gro T G H G2 H2 :=
  ⟨g.gg, g.gh, fun a o n q => g.fr a o (fun z => n (h a z)) q, fun a o n q => g.fz a o (fun z => n (h a z)) q⟩
/-- a new object, frozen at once -/
theorem gro_new {S : List Addr} {G H : Hp} {p : Addr} {o : HO} (gh : Ex G H) (hp : H p = none) : Gro S G H (upd G p o) (upd H p o) := by
  have gp : G p = none := Evl.fresh_back gh hp
  refine ⟨Evl.Ex.new gp, fun a u q => ?_, fun a u _ q => Evl.Ex.new hp a u q, fun a u _ q => ?_⟩
  · by_cases h : a = p
    · subst h; rw [upd_same] at q ⊢; exact q
    · rw [upd_ne h] at q ⊢; exact gh a u q
  · exact upd_ne (ne_of_none q hp)
theorem SF.new {F : Fs} {G H : Hp} {p : Addr} {o : HO} (s : SF F G H) (hp : H p = none) : SF F (upd G p o) (upd H p o) := by
  have g : Gro (ad []) G H (upd G p o) (upd H p o) := gro_new s.gh hp
  exact SF.keep (F := []) (F' := []) (R := F) s g (SF.nil g.gh) rfl
/-- a new object, owned -/
theorem SF.newOwn {F : Fs} {G H : Hp} {p : Addr} {o : HO} {f : FO} (s : SF F G H) (hp : H p = none) (hf : FOk G (upd H p o) p f) : SF (F ++ [(p, f)]) G (upd H p o) := by
  refine ⟨fun a u q => Evl.Ex.new hp a u (s.gh a u q), fun q hq => ?_, ?_⟩
  · rcases List.mem_append.mp hq with h | h
    · have h1 := s.sf q h
      exact ⟨h1.1, h1.2.mono (Evl.Ex.refl G) fun o' e => Evl.Ex.new hp q.1 o' e⟩
    · have e : q = (p, f) := by simpa using h
      subst e
      exact ⟨Evl.fresh_back s.gh hp, hf⟩
  · rw [List.map_append]
    refine List.nodup_append.mpr ⟨s.nd, by simp, fun a ha b hb => ?_⟩
    have e : b = p := by simpa using hb
    subst e
    rintro rfl
    obtain ⟨q, hq, e⟩ := List.mem_map.mp ha
    obtain ⟨o', h2⟩ := (s.sf q hq).2.some
    rw [e, hp] at h2
    cases h2
end DL
set_option Elab.async false
set_option linter.all false
set_option maxRecDepth 100000
set_option maxHeartbeats 4000000
namespace DL
open PySem L2
open Evl (Ex)

/-! ### arguments -/
/-- the data of arguments that are all data -/
def dats : List En → Option (List D)
  | [] => some []
  | .dat d :: r => (dats r).map (d :: ·)
  | .val (.int i) :: r => (dats r).map (.int i :: ·)
  | _ => none
theorem AO.rpa {G : Hp} : ∀ {vs : List V} {as : List En} {ds : List D}, AO G vs as → dats as = some ds → RpA G vs ds
  | _, _, _, .nil, h => by cases h; exact .nil
  | _, _, _, .dat h r, e => by
    rename_i v vs d as
    have e2 : (dats as).map (d :: ·) = some _ := e
    obtain ⟨l, e3, e4⟩ := Option.map_eq_some_iff.mp e2
    subst e4
    exact .cons h (AO.rpa r e3)
  | _, _, _, .val r, e => by
    rename_i v vs as
    cases v with
    | int i =>
      have e2 : (dats as).map (D.int i :: ·) = some _ := e
      obtain ⟨l, e3, e4⟩ := Option.map_eq_some_iff.mp e2
      subst e4
      exact .cons (.int i) (AO.rpa r e3)
    | _ => cases e

/-! ### evaluation -/
def EvX (te : TE) (es : List En) (F : Fs) (d : D) (F' : Fs) : Prop := ad F' = ad F ∧ ∀ G H σ, SS es F G H σ → ∀ Q : VK, (∀ v G2 H2, SS es F' G2 H2 σ → Gro (ad F) G H G2 H2 → Rp G2 v d → Q v H2) → te σ H Q
def EvV (te : TE) (es : List En) (F : Fs) (v : V) (F' : Fs) : Prop := ad F' = ad F ∧ ∀ G H σ, SS es F G H σ → ∀ Q : VK, (∀ G2 H2, SS es F' G2 H2 σ → Gro (ad F) G H G2 H2 → Q v H2) → te σ H Q
def EvT (tt : TT) (es : List En) (F : Fs) (b : Bool) (F' : Fs) : Prop := ad F' = ad F ∧ ∀ G H σ, SS es F G H σ → ∀ Q : Bool → Hp → Prop, (∀ G2 H2, SS es F' G2 H2 σ → Gro (ad F) G H G2 H2 → Q b H2) → tt σ H Q
def EvA (ta : TA) (es : List En) (F : Fs) (as : List En) (F' : Fs) : Prop := ad F' = ad F ∧ ∀ G H σ, SS es F G H σ → ∀ Q : List V → Hp → Prop, (∀ vs G2 H2, SS es F' G2 H2 σ → Gro (ad F) G H G2 H2 → AO G2 vs as → Q vs H2) → ta σ H Q
/-- a new list of these -/
def EvN (te : TE) (es : List En) (F : Fs) (ds : List D) (F' : Fs) : Prop := ad F' = ad F ∧ ∀ G H σ, SS es F G H σ → ∀ Q : VK, (∀ p xs G2 H2, SS es F' G2 H2 σ → Gro (ad F) G H G2 H2 → H p = none → G2 p = none → H2 p = some (.lst xs) → RpA G2 xs ds → Q (.ref p) H2) → te σ H Q
def EvO (to : TO) (es : List En) (F : Fs) (o : Option Int) (F' : Fs) : Prop := ad F' = ad F ∧ ∀ G H σ, SS es F G H σ → ∀ Q : Option Int → Hp → Prop, (∀ G2 H2, SS es F' G2 H2 σ → Gro (ad F) G H G2 H2 → Q o H2) → to σ H Q

section
variable {es : List En} {F F1 F2 F3 R : Fs} {G H G2 H2 : Hp} {σ : L2.St} {S : List Addr}
theorem SS.gex (s : SS es F G H σ) : Ex G H := s.f.gh
theorem SS.grow (s : SS es F G H σ) (g : Gro [] G H G2 H2) : SS es F G2 H2 σ :=
  ⟨SF.keep (F := []) (F' := []) (R := F) s.f g (SF.nil g.gh) rfl, s.se.mono g.gg⟩
theorem gtr {K : PySem.W.Frag} {G1 H1 : Hp} (a : Gro S G H G1 H1) (b : Gro S G1 H1 G2 H2) : Gro S G H G2 H2 := a.trans b fun _ h => .inl h
theorem Gro.then {G1 H1 : Hp} (a : Gro (ad F) G H G1 H1) (e : ad F1 = ad F) (b : Gro (ad F1) G1 H1 G2 H2) : Gro (ad F) G H G2 H2 := a.trans b fun x h => .inl (e ▸ h)
theorem Gro.then0 {G1 H1 : Hp} (a : Gro S G H G1 H1) (b : Gro [] G1 H1 G2 H2) : Gro S G H G2 H2 := a.trans b fun x h => by cases h
theorem frame (s : SF (F ++ R) G H) : SF F G H := s.left

variable {ta tb tc te : TE} {t u : TT} {tas tr : TA} {d d1 d2 d3 : D} {v : V} {b c : Bool} {i j : Nat} {n m : Int} {as : List En} {ds : List D}
theorem EvV.x (h : EvV te es F v F1) (r : ∀ G, Rp G v d) : EvX te es F d F1 := ⟨h.1, fun G H σ s Q k => h.2 G H σ s Q fun G2 H2 s2 g => k v G2 H2 s2 g (r G2)⟩
theorem EvX.int (h : EvX te es F (.int n) F1) : EvV te es F (.int n) F1 := ⟨h.1, fun G H σ s Q k => h.2 G H σ s Q fun v G2 H2 s2 g r => by rw [rp_int r]; exact k G2 H2 s2 g⟩
theorem EvX.bl (h : EvX te es F (.bl b) F1) : EvV te es F (.bl b) F1 := ⟨h.1, fun G H σ s Q k => h.2 G H σ s Q fun v G2 H2 s2 g r => by rw [rp_bl r]; exact k G2 H2 s2 g⟩
theorem EvX.to (h : EvX te es F d1 F1) (e : d1 = d2) : EvX te es F d2 F1 := e ▸ h
theorem EvX.toF (h : EvX te es F d1 F1) (e : F1 = F2) : EvX te es F d1 F2 := e ▸ h
theorem EvT.to (h : EvT t es F b F1) (e : b = c) : EvT t es F c F1 := e ▸ h

theorem evx_int : EvX (tC (.int n)) es F (.int n) F := ⟨rfl, fun G H σ s Q k => k _ G H s (.refl s.gex) (.int n)⟩
theorem evx_bl : EvX (tC (.bl b)) es F (.bl b) F := ⟨rfl, fun G H σ s Q k => k _ G H s (.refl s.gex) (.bl b)⟩
theorem evx_str {x : Str} : EvX (tC (.str x)) es F (.str x) F := ⟨rfl, fun G H σ s Q k => k _ G H s (.refl s.gex) (.str x)⟩
theorem evx_non : EvX (tC .non) es F .non F := ⟨rfl, fun G H σ s Q k => k _ G H s (.refl s.gex) .non⟩
theorem slot_dat (s : SE G σ es) (h : es[i]? = some (.dat d)) : ∃ v, σ[i]? = some (some v) ∧ Rp G v d := by
  obtain ⟨v, e, r⟩ := s.2 i _ h
  refine ⟨v, ?_, r⟩
  cases q : σ[i]? with
  | none => rw [q] at e; cases e
  | some z => rw [q] at e; exact congrArg some e
theorem slot_val (s : SE G σ es) (h : es[i]? = some (.val v)) : σ[i]? = some (some v) := by
  have e : (σ[i]?).join = some v := s.2 i _ h
  cases q : σ[i]? with
  | none => rw [q] at e; cases e
  | some z => rw [q] at e; exact congrArg some e
theorem evx_var (h : es[i]? = some (.dat d)) : EvX (tVar i) es F d F := ⟨rfl, fun G H σ s Q k => by
  obtain ⟨v, e, r⟩ := slot_dat s.se h
  exact ⟨v, e, k v G H s (.refl s.gex) r⟩⟩
theorem evv_var (h : es[i]? = some (.val v)) : EvV (tVar i) es F v F := ⟨rfl, fun G H σ s Q k => ⟨v, slot_val s.se h, k G H s (.refl s.gex)⟩⟩

/-! operations on two values -/
def RvX (r : R2) (d1 d2 d : D) : Prop := ∀ G H v1 v2, Ex G H → Rp G v1 d1 → Rp G v2 d2 → ∀ Q : VK, (∀ v G2 H2, Gro [] G H G2 H2 → Rp G2 v d → Q v H2) → r v1 v2 H Q
theorem evx_op {r : R2} (ha : EvX ta es F d1 F1) (hb : EvX tb es F1 d2 F2) (hr : RvX r d1 d2 d) : EvX (tOp r ta tb) es F d F2 := ⟨hb.1.trans ha.1, fun G H σ s Q k =>
  ha.2 G H σ s _ fun v1 G1 H1 s1 g1 r1 => hb.2 G1 H1 σ s1 _ fun v2 G2 H2 s2 g2 r2 => hr G2 H2 v1 v2 s2.gex (r1.mono g2.gg) r2 _ fun v G3 H3 g3 r3 =>
    k v G3 H3 (s2.grow g3) ((g1.then ha.1 g2).then0 g3) r3⟩
theorem rv_val {r : R2} (h : ∀ v1 v2 G H (Q : VK), Rp G v1 d1 → Rp G v2 d2 → Ex G H → (∃ v, Rp G v d ∧ (Q v H → r v1 v2 H Q))) : RvX r d1 d2 d := fun G H v1 v2 e r1 r2 Q k => by
  obtain ⟨v, h1, h2⟩ := h v1 v2 G H Q r1 r2 e
  exact h2 (k v G H (.refl e) h1)
theorem rv_I0 {f : Int → Int → Int} : RvX (rI0 fun i j => .int (f i j)) (.int n) (.int m) (.int (f n m)) := rv_val fun v1 v2 G H Q r1 r2 e => by
  rw [rp_int r1, rp_int r2]
  exact ⟨_, .int _, fun q => ⟨n, m, rfl, rfl, q⟩⟩
theorem rv_B0 {p : Int → Int → Bool} : RvX (rI0 fun i j => .bl (p i j)) (.int n) (.int m) (.bl (p n m)) := rv_val fun v1 v2 G H Q r1 r2 e => by
  rw [rp_int r1, rp_int r2]
  exact ⟨_, .bl _, fun q => ⟨n, m, rfl, rfl, q⟩⟩
theorem rv_I {C : Int → Int → Prop} {f : Int → Int → Int} (hc : C n m) : RvX (rI C fun i j => .int (f i j)) (.int n) (.int m) (.int (f n m)) := rv_val fun v1 v2 G H Q r1 r2 e => by
  rw [rp_int r1, rp_int r2]
  exact ⟨_, .int _, fun q => ⟨n, m, rfl, rfl, hc, q⟩⟩
theorem rv_eq_int : RvX rEq (.int n) (.int m) (.bl (decide (n = m))) := rv_val fun v1 v2 G H Q r1 r2 e => by
  rw [rp_int r1, rp_int r2]
  refine ⟨_, .bl _, fun q => ⟨rfl, ?_⟩⟩
  have e : decide (V.int n = V.int m) = decide (n = m) := decide_eq_decide.mpr ⟨fun h => V.int.inj h, fun h => by rw [h]⟩
  rw [e]; exact q
theorem rv_ne_int : RvX rNe (.int n) (.int m) (.bl (!decide (n = m))) := rv_val fun v1 v2 G H Q r1 r2 e => by
  rw [rp_int r1, rp_int r2]
  refine ⟨_, .bl _, fun q => ⟨rfl, ?_⟩⟩
  have e : decide (V.int n = V.int m) = decide (n = m) := decide_eq_decide.mpr ⟨fun h => V.int.inj h, fun h => by rw [h]⟩
  rw [e]; exact q
theorem rv_eq_str {x y : Str} : RvX rEq (.str x) (.str y) (.bl (decide (x = y))) := rv_val fun v1 v2 G H Q r1 r2 e => by
  rw [rp_str r1, rp_str r2]
  refine ⟨_, .bl _, fun q => ⟨rfl, ?_⟩⟩
  have e : decide (V.str x = V.str y) = decide (x = y) := decide_eq_decide.mpr ⟨fun h => V.str.inj h, fun h => by rw [h]⟩
  rw [e]; exact q
theorem rv_ne_str {x y : Str} : RvX rNe (.str x) (.str y) (.bl (!decide (x = y))) := rv_val fun v1 v2 G H Q r1 r2 e => by
  rw [rp_str r1, rp_str r2]
  refine ⟨_, .bl _, fun q => ⟨rfl, ?_⟩⟩
  have e : decide (V.str x = V.str y) = decide (x = y) := decide_eq_decide.mpr ⟨fun h => V.str.inj h, fun h => by rw [h]⟩
  rw [e]; exact q
theorem sz (h : n ≤ 100000) (e : (k : Int) = n) : True := trivial
theorem atI_rp {xs : List V} {a : Int} (r : RpA G xs ds) (h : atI ds a = some d) : ∃ v, atI xs a = some v ∧ Rp G v d := by
  unfold atI at h ⊢
  rw [r.len]
  cases e : ixN ds.length a with
  | none => rw [e] at h; cases h
  | some j =>
    rw [e] at h
    exact r.get h
theorem rv_ixL {K : PySem.W.Frag} (h : atI ds n = some d) : RvX (rIxL K) (.lst ds) (.int n) d := rv_val fun v1 v2 G H Q r1 r2 e => by
  obtain ⟨a, xs, rfl, h1, h2⟩ := rp_lst r1
  rw [rp_int r2]
  obtain ⟨v, h3, h4⟩ := atI_rp h2 h
  exact ⟨v, h4, fun q => ⟨a, xs, n, v, rfl, rfl, .inl (.inl (e _ _ h1)), h3, q⟩⟩
theorem rv_ixT {K : PySem.W.Frag} (h : atI ds n = some d) : RvX (rIxT K) (.tup ds) (.int n) d := rv_val fun v1 v2 G H Q r1 r2 e => by
  obtain ⟨a, xs, rfl, h1, h2⟩ := rp_tup r1
  rw [rp_int r2]
  obtain ⟨v, h3, h4⟩ := atI_rp h2 h
  exact ⟨v, h4, fun q => ⟨a, xs, n, v, rfl, rfl, .inl (.inl (e _ _ h1)), h3, q⟩⟩
theorem rv_cat (hl : ds.length + ds'.length ≤ 100000) : RvX rCat (.lst ds) (.lst ds') (.lst (ds ++ ds')) := fun G H v1 v2 e r1 r2 Q k => by
  obtain ⟨a, xs, rfl, h1, h2⟩ := rp_lst r1
  obtain ⟨a', ys, rfl, h3, h4⟩ := rp_lst r2
  refine ⟨a, a', xs, ys, rfl, rfl, e _ _ h1, e _ _ h3, ?_, fun p hp => k _ _ _ (gro_new e hp) (.lst upd_same ((h2.app h4).mono (gro_new (S := []) e hp).gg))⟩
  rw [h2.len, h4.len]
  exact Evl.sz_of hl
theorem rv_catT {K : PySem.W.Frag} (hn : ds ≠ []) (hl : ds.length + ds'.length ≤ 100000) : RvX (rCatT K) (.tup ds) (.tup ds') (.tup (ds ++ ds')) := fun G H v1 v2 e r1 r2 Q k => by
  obtain ⟨a, xs, rfl, h1, h2⟩ := rp_tup r1
  obtain ⟨a', ys, rfl, h3, h4⟩ := rp_tup r2
  have l1 := h2.len
  have l2 := h4.len
  refine ⟨a, a', xs, ys, rfl, rfl, .inl (.inl (e _ _ h1)), .inl (.inl (e _ _ h3)), ?_, ?_, fun z => ?_, fun _ p hp => k _ _ _ (gro_new e hp) (.tup upd_same ((h2.app h4).mono (gro_new (S := []) e hp).gg))⟩
  · intro z; subst z; exact hn (List.length_eq_zero_iff.mp l1.symm)
  · rw [l1, l2]
    exact Evl.sz_of hl
  · subst z
    have e2 : ds' = [] := List.length_eq_zero_iff.mp l2.symm
    subst e2
    rw [List.append_nil] at *
    exact k _ G H (.refl e) (.tup h1 h2)

/-! arguments, displays -/
theorem eva_nil : EvA tNil es F [] F := ⟨rfl, fun G H σ s Q k => k [] G H s (.refl s.gex) .nil⟩
theorem eva_dat (ha : EvX ta es F d F1) (hr : EvA tr es F1 as F2) : EvA (tCons ta tr) es F (.dat d :: as) F2 := ⟨hr.1.trans ha.1, fun G H σ s Q k =>
  ha.2 G H σ s _ fun v1 G1 H1 s1 g1 r1 => hr.2 G1 H1 σ s1 _ fun vs G2 H2 s2 g2 r2 => k _ G2 H2 s2 (g1.then ha.1 g2) (.dat (r1.mono g2.gg) r2)⟩
theorem eva_val (ha : EvV ta es F v F1) (hr : EvA tr es F1 as F2) : EvA (tCons ta tr) es F (.val v :: as) F2 := ⟨hr.1.trans ha.1, fun G H σ s Q k =>
  ha.2 G H σ s _ fun G1 H1 s1 g1 => hr.2 G1 H1 σ s1 _ fun vs G2 H2 s2 g2 r2 => k _ G2 H2 s2 (g1.then ha.1 g2) (.val r2)⟩
theorem evx_tup (ha : EvA tas es F as F1) (hd : dats as = some ds) (hl : ds.length ≤ 100000) : EvX (tTup tas) es F (.tup ds) F1 := ⟨ha.1, fun G H σ s Q k =>
  ha.2 G H σ s _ fun vs G1 H1 s1 g1 r1 => ⟨by rw [(r1.rpa hd).len]; exact Evl.sz_of hl, fun p hp => k _ _ _ (s1.grow (gro_new s1.gex hp)) (g1.then0 (gro_new s1.gex hp)) (.tup upd_same ((r1.rpa hd).mono (gro_new (S := []) s1.gex hp).gg))⟩⟩
theorem evx_lst (ha : EvA tas es F as F1) (hd : dats as = some ds) (hl : ds.length ≤ 100000) : EvX (tLst tas) es F (.lst ds) F1 := ⟨ha.1, fun G H σ s Q k =>
  ha.2 G H σ s _ fun vs G1 H1 s1 g1 r1 => ⟨by rw [(r1.rpa hd).len]; exact Evl.sz_of hl, fun p hp => k _ _ _ (s1.grow (gro_new s1.gex hp)) (g1.then0 (gro_new s1.gex hp)) (.lst upd_same ((r1.rpa hd).mono (gro_new (S := []) s1.gex hp).gg))⟩⟩
theorem SF.laid {p : Addr} {o : HO} (s : SF F G H) (hp : H p = none) : SF F G (upd H p o) := (s.newOwn hp (f := .raw o) upd_same).left
theorem gro_laid {p : Addr} {o : HO} (gh : Ex G H) (hp : H p = none) : Gro S G H G (upd H p o) :=
  ⟨Evl.Ex.refl G, fun a u q => Evl.Ex.new hp a u (gh a u q), fun a u _ q => Evl.Ex.new hp a u q, fun _ _ _ _ => rfl⟩
theorem fresh0 {p : Addr} (s : SS es F G H σ) (s1 : SS es F1 G2 H2 σ) (g1 : Gro (ad F) G H G2 H2) (e1 : ad F1 = ad F) (hp : H2 p = none) : H p = none := by
  cases q : H p with
  | none => rfl
  | some o =>
    by_cases hs : p ∈ ad F
    · rw [← e1] at hs
      obtain ⟨z, hz, e⟩ := List.mem_map.mp hs
      obtain ⟨o', h2⟩ := (s1.f.sf z hz).2.some
      rw [e, hp] at h2
      cases h2
    · rw [g1.fr p o hs q] at hp
      cases hp
theorem evn_lst (ha : EvA tas es F as F1) (hd : dats as = some ds) (hl : ds.length ≤ 100000) : EvN (tLst tas) es F ds F1 := ⟨ha.1, fun G H σ s Q k =>
  ha.2 G H σ s _ fun vs G1 H1 s1 g1 r1 => ⟨by rw [(r1.rpa hd).len]; exact Evl.sz_of hl, fun p hp => k p vs G1 _ ⟨s1.f.laid hp, s1.se⟩ (g1.then0 (gro_laid s1.gex hp)) (fresh0 s s1 g1 ha.1 hp) (Evl.fresh_back s1.gex hp) upd_same (r1.rpa hd)⟩⟩
theorem EvN.x (h : EvN te es F ds F1) : EvX te es F (.lst ds) F1 := ⟨h.1, fun G H σ s Q k => h.2 G H σ s Q fun p xs G2 H2 s2 g hp gp hq r => by
  have e1 : Ex G2 (upd G2 p (.lst xs)) := Evl.Ex.new gp
  have np : p ∉ ad F1 := fun z => by
    rw [h.1] at z
    obtain ⟨q, hq, e⟩ := List.mem_map.mp z
    obtain ⟨o, h2⟩ := (s.f.sf q hq).2.some
    rw [e, hp] at h2
    cases h2
  have gh : Ex (upd G2 p (.lst xs)) H2 := fun a u q => by
    by_cases z : a = p
    · subst z; rw [upd_same] at q; rw [hq]; exact q
    · rw [upd_ne z] at q; exact s2.gex a u q
  refine k (.ref p) (upd G2 p (.lst xs)) H2 ⟨⟨gh, fun q hq2 => ?_, s2.f.nd⟩, s2.se.mono e1⟩ ⟨g.gg.trans e1, gh, g.fr, fun a o n q => ?_⟩ (.lst upd_same (r.mono e1))
  · have z := s2.f.sf q hq2
    have ne : q.1 ≠ p := fun e => np (e ▸ List.mem_map_of_mem hq2)
    exact ⟨by rw [upd_ne ne]; exact z.1, z.2.mono e1 fun _ y => y⟩
  · rw [upd_ne (ne_of_none q hp)]
    exact g.fz a o n q⟩

/-! calls of built-ins -/
def RcX (r : List V → Hp → VK → Prop) (as : List En) (d : D) : Prop := ∀ G H vs, Ex G H → AO G vs as → ∀ Q : VK, (∀ v G2 H2, Gro [] G H G2 H2 → Rp G2 v d → Q v H2) → r vs H Q
theorem evx_cb {r : List V → Hp → VK → Prop} (ha : EvA tas es F as F1) (hr : RcX r as d) : EvX (tCB r tas) es F d F1 := ⟨ha.1, fun G H σ s Q k =>
  ha.2 G H σ s _ fun vs G1 H1 s1 g1 r1 => hr G1 H1 vs s1.gex r1 _ fun v G2 H2 g2 r2 => k v G2 H2 (s1.grow g2) (g1.then0 g2) r2⟩
theorem ao1 {vs : List V} (h : AO G vs [.dat d]) : ∃ v, vs = [v] ∧ Rp G v d := by
  cases h with
  | dat h r => cases r; exact ⟨_, rfl, h⟩
theorem ao2 {vs : List V} (h : AO G vs [.dat d1, .dat d2]) : ∃ v w, vs = [v, w] ∧ Rp G v d1 ∧ Rp G w d2 := by
  cases h with
  | dat h r =>
    obtain ⟨w, e, q⟩ := ao1 r
    subst e
    exact ⟨_, _, rfl, h, q⟩
theorem rc_lenL {K : PySem.W.Frag} : RcX (fun xs H Q => ∃ p ys, xs = [V.ref p] ∧ (SqL K H p ys ∨ SqT K H p ys) ∧ Q (.int ys.length) H) [.dat (.lst ds)] (.int ds.length) := fun G H vs e h Q k => by
  obtain ⟨v, rfl, r⟩ := ao1 h
  obtain ⟨a, xs, rfl, h1, h2⟩ := rp_lst r
  refine ⟨a, xs, rfl, .inl (.inl (.inl (e _ _ h1))), ?_⟩
  rw [h2.len]
  exact k _ G H (.refl e) (.int _)
theorem rc_lenT {K : PySem.W.Frag} : RcX (fun xs H Q => ∃ p ys, xs = [V.ref p] ∧ (SqL K H p ys ∨ SqT K H p ys) ∧ Q (.int ys.length) H) [.dat (.tup ds)] (.int ds.length) := fun G H vs e h Q k => by
  obtain ⟨v, rfl, r⟩ := ao1 h
  obtain ⟨a, xs, rfl, h1, h2⟩ := rp_tup r
  refine ⟨a, xs, rfl, .inr (.inl (.inl (e _ _ h1))), ?_⟩
  rw [h2.len]
  exact k _ G H (.refl e) (.int _)
theorem rc_listL {K : PySem.W.Frag} : RcX (fun xs H Q => ∃ p ys, xs = [V.ref p] ∧ (SqL K H p ys ∨ SqT K H p ys) ∧ ∀ l, H l = none → Q (.ref l) (upd H l (.lst ys))) [.dat (.lst ds)] (.lst ds) := fun G H vs e h Q k => by
  obtain ⟨v, rfl, r⟩ := ao1 h
  obtain ⟨a, xs, rfl, h1, h2⟩ := rp_lst r
  exact ⟨a, xs, rfl, .inl (.inl (.inl (e _ _ h1))), fun p hp => k _ _ _ (gro_new e hp) (.lst upd_same (h2.mono (gro_new (S := []) e hp).gg))⟩
theorem rc_min2 : RcX (fun xs H Q => ∃ i j, xs = [V.int i, V.int j] ∧ Q (.int (if j < i then j else i)) H) [.dat (.int n), .dat (.int m)] (.int (min n m)) := fun G H vs e h Q k => by
  obtain ⟨v, w, rfl, r1, r2⟩ := ao2 h
  rw [rp_int r1, rp_int r2]
  refine ⟨n, m, rfl, ?_⟩
  have e2 : (if m < n then m else n) = min n m := by
    rw [Int.min_def]; split <;> split <;> omega
  rw [e2]
  exact k _ G H (.refl e) (.int _)
theorem rc_max2 : RcX (fun xs H Q => ∃ i j, xs = [V.int i, V.int j] ∧ Q (.int (if j > i then j else i)) H) [.dat (.int n), .dat (.int m)] (.int (max n m)) := fun G H vs e h Q k => by
  obtain ⟨v, w, rfl, r1, r2⟩ := ao2 h
  rw [rp_int r1, rp_int r2]
  refine ⟨n, m, rfl, ?_⟩
  have e2 : (if m > n then m else n) = max n m := by
    rw [Int.max_def]; split <;> split <;> omega
  rw [e2]
  exact k _ G H (.refl e) (.int _)
theorem rc_intB : RcX (fun xs H Q => (∃ i, xs = [V.int i] ∧ Q (.int i) H) ∨ ∃ k, xs = [V.bl k] ∧ Q (.int (if k then 1 else 0)) H) [.dat (.bl b)] (.int (if b then 1 else 0)) := fun G H vs e h Q k => by
  obtain ⟨v, rfl, r1⟩ := ao1 h
  rw [rp_bl r1]
  exact .inr ⟨b, rfl, k _ G H (.refl e) (.int _)⟩

/-! tests -/
theorem evt_test (h : EvX te es F (.bl b) F1) : EvT (tTest te) es F b F1 := ⟨h.1, fun G H σ s Q k => h.2 G H σ s _ fun v G2 H2 s2 g r => ⟨b, rp_bl r, k G2 H2 s2 g⟩⟩
theorem evt_B (h : EvX te es F (.bl b) F1) : EvT (tB te) es F b F1 := ⟨h.1, fun G H σ s Q k => h.2 G H σ s _ fun v G2 H2 s2 g r => ⟨b, rp_bl r, k G2 H2 s2 g⟩⟩
theorem evt_not (h : EvT t es F b F1) : EvT (tNot t) es F (!b) F1 := ⟨h.1, fun G H σ s Q k => h.2 G H σ s _ fun G2 H2 s2 g => k G2 H2 s2 g⟩
theorem evt_and (h1 : EvT t es F b F) (h2 : b = true → EvT u es F c F) : EvT (tAnd t u) es F (b && c) F := ⟨rfl, fun G H σ s Q k => h1.2 G H σ s _ fun G1 H1 s1 g1 => by
  cases b with
  | true => exact (h2 rfl).2 G1 H1 σ s1 _ fun G2 H2 s2 g2 => k G2 H2 s2 (g1.then rfl g2)
  | false => exact k G1 H1 s1 g1⟩
theorem evt_or (h1 : EvT t es F b F) (h2 : b = false → EvT u es F c F) : EvT (tOr t u) es F (b || c) F := ⟨rfl, fun G H σ s Q k => h1.2 G H σ s _ fun G1 H1 s1 g1 => by
  cases b with
  | true => exact k G1 H1 s1 g1
  | false => exact (h2 rfl).2 G1 H1 σ s1 _ fun G2 H2 s2 g2 => k G2 H2 s2 (g1.then rfl g2)⟩
theorem evt_and_t (h1 : EvT t es F true F1) (h2 : EvT u es F1 c F2) : EvT (tAnd t u) es F c F2 := ⟨h2.1.trans h1.1, fun G H σ s Q k => h1.2 G H σ s _ fun G1 H1 s1 g1 => h2.2 G1 H1 σ s1 _ fun G2 H2 s2 g2 => k G2 H2 s2 (g1.then h1.1 g2)⟩
theorem evt_and_f (h1 : EvT t es F false F1) : EvT (tAnd t u) es F false F1 := ⟨h1.1, fun G H σ s Q k => h1.2 G H σ s _ fun G1 H1 s1 g1 => k G1 H1 s1 g1⟩
theorem evx_andV (h1 : EvX ta es F (.bl b) F) (h2 : b = true → EvX tb es F (.bl c) F) : EvX (tAndV ta tb) es F (.bl (b && c)) F := ⟨rfl, fun G H σ s Q k => h1.2 G H σ s _ fun v G1 H1 s1 g1 r1 => ⟨b, rp_bl r1, by
  cases b with
  | true => exact (h2 rfl).2 G1 H1 σ s1 _ fun v G2 H2 s2 g2 r2 => k v G2 H2 s2 (g1.then rfl g2) r2
  | false => exact k _ G1 H1 s1 g1 (.bl false)⟩⟩
theorem evx_orV (h1 : EvX ta es F (.bl b) F) (h2 : b = false → EvX tb es F (.bl c) F) : EvX (tOrV ta tb) es F (.bl (b || c)) F := ⟨rfl, fun G H σ s Q k => h1.2 G H σ s _ fun v G1 H1 s1 g1 r1 => ⟨b, rp_bl r1, by
  cases b with
  | true => exact k _ G1 H1 s1 g1 (.bl true)
  | false => exact (h2 rfl).2 G1 H1 σ s1 _ fun v G2 H2 s2 g2 r2 => k v G2 H2 s2 (g1.then rfl g2) r2⟩⟩
theorem evx_notV (h1 : EvX ta es F (.bl b) F1) : EvX (tNotV ta) es F (.bl (!b)) F1 := ⟨h1.1, fun G H σ s Q k => h1.2 G H σ s _ fun v G1 H1 s1 g1 r1 => ⟨b, rp_bl r1, k _ G1 H1 s1 g1 (.bl _)⟩⟩
theorem evx_chain {p q : Int → Int → Bool} {x y z : Int} (ha : EvX ta es F (.int x) F) (hb : EvX tb es F (.int y) F) (hc : EvX tc es F (.int z) F) :
    EvX (tChain (rI0 fun i j => .bl (p i j)) (rI0 fun i j => .bl (q i j)) ta tb tc) es F (.bl (p x y && q y z)) F := ⟨rfl, fun G H σ s Q k =>
  ha.2 G H σ s _ fun v1 G1 H1 s1 g1 r1 => hb.2 G1 H1 σ s1 _ fun v2 G2 H2 s2 g2 r2 => by
    rw [rp_int r1, rp_int r2]
    refine ⟨x, y, rfl, rfl, p x y, rfl, ?_⟩
    have h1 : p x y = true → tc σ H2 fun w' H4 => (rI0 fun i j => .bl (q i j)) (.int y) w' H4 Q := fun e => hc.2 G2 H2 σ s2 _ fun v3 G3 H3 s3 g3 r3 => by
      rw [rp_int r3]
      refine ⟨y, z, rfl, rfl, ?_⟩
      have k2 := k (.bl (p x y && q y z)) G3 H3 s3 ((g1.then rfl g2).then rfl g3) (.bl _)
      rw [e] at k2
      exact k2
    have h2 : p x y = false → Q (.bl false) H2 := fun e => by
      have k2 := k (.bl (p x y && q y z)) G2 H2 s2 (g1.then rfl g2) (.bl _)
      rw [e] at k2
      exact k2
    cases e : p x y with
    | true => exact h1 e
    | false => exact h2 e⟩
end
end DL
set_option Elab.async false
set_option linter.all false
set_option maxRecDepth 100000
set_option maxHeartbeats 4000000
namespace DL
open PySem L2
open Evl (Ex)

/-! ### statements: from where the def stands, what is reached -/
structure Cn where
  S : List Addr
  G : Hp
  H : Hp
  K : List (Addr × List V × List D)
structure ST (Γ : Cn) (es : List En) (F : Fs) (G H : Hp) (σ : L2.St) : Prop where
  s : SS es F G H σ
  g : Gro Γ.S Γ.G Γ.H G H
  fr : ∀ a ∈ ad F, a ∈ Γ.S ∨ Γ.H a = none
  kn : ∀ p ∈ Γ.K, G p.1 = some (.lst p.2.1) ∧ RpA G p.2.1 p.2.2
def Go (Γ : Cn) (es : List En) (F : Fs) (P : L2.St → Hp → Prop) : Prop := ∀ G H σ, ST Γ es F G H σ → P σ H
def InvP (Γ : Cn) (es : List En) (F : Fs) : L2.St → Hp → Prop := fun σ H => ∃ G, ST Γ es F G H σ

section
variable {Γ : Cn} {es es' : List En} {F F1 F2 R : Fs} {G H G2 H2 : Hp} {σ : L2.St} {ta te tl : TE} {t u : TT} {tas : TA} {d : D} {v : V} {b : Bool} {i j k : Nat} {n m lo : Int} {as : List En} {ds : List D} {Dn : Ends} {tz tu tw tb : TS} {P : L2.St → Hp → Prop}
theorem ST.step (st : ST Γ es F G H σ) (s2 : SS es' F1 G2 H2 σ') (g : Gro (ad F) G H G2 H2) (e : ad F1 = ad F) : ST Γ es' F1 G2 H2 σ' := by
  refine ⟨s2, st.g.trans g st.fr, fun a ha => st.fr a (e ▸ ha), fun p hp => ⟨g.gg _ _ (st.kn p hp).1, (st.kn p hp).2.mono g.gg⟩⟩
theorem SE.set {es : List En} {σ : L2.St} {e : En} {x : Option V} (s : SE G σ es) (he : EnOk G x e) (i : Nat) : SE G (σ.set i x) (es.set i e) := by
  refine ⟨by rw [List.length_set, List.length_set]; exact s.1, fun j en h => ?_⟩
  by_cases q : i = j
  · subst q
    have hl : i < es.length := by
      rw [List.getElem?_set_self'] at h
      cases hh : es[i]? with
      | none => rw [hh] at h; cases h
      | some _ => exact (List.getElem?_eq_some_iff.mp hh).1
    rw [List.getElem?_set_self hl] at h
    cases h
    rw [List.getElem?_set_self (by rw [s.1]; exact hl)]
    exact he
  · rw [List.getElem?_set_ne q] at h ⊢
    exact s.2 j en h
theorem ST.set (st : ST Γ es F G H σ) (r : Rp G v d) (i : Nat) : ST Γ (es.set i (.dat d)) F G H (σ.set i (some v)) :=
  ⟨⟨st.s.f, st.s.se.set (e := .dat d) ⟨v, rfl, r⟩ i⟩, st.g, st.fr, st.kn⟩
theorem ST.setV (st : ST Γ es F G H σ) (i : Nat) : ST Γ (es.set i (.val v)) F G H (σ.set i (some v)) :=
  ⟨⟨st.s.f, st.s.se.set (e := .val v) rfl i⟩, st.g, st.fr, st.kn⟩
/-- less is told -/
inductive Cov : List En → List En → Prop
  | nil : Cov [] []
  | same {e : En} {a b : List En} : Cov a b → Cov (e :: a) (e :: b)
  | unk {e : En} {a b : List En} : Cov a b → Cov (e :: a) (.unk :: b)
theorem Cov.rfl' : ∀ (a : List En), Cov a a
  | [] => .nil
  | _ :: a => .same (Cov.rfl' a)
theorem Cov.len : ∀ {a b : List En}, Cov a b → a.length = b.length
  | _, _, .nil => rfl
  | _, _, .same h => congrArg (· + 1) h.len
  | _, _, .unk h => congrArg (· + 1) h.len
theorem Cov.at : ∀ {a b : List En} {i : Nat} {e : En}, Cov a b → b[i]? = some e → e = .unk ∨ a[i]? = some e
  | _, _, i, _, .nil, h => by simp at h
  | _, _, 0, _, .same _, h => .inr h
  | _, _, 0, _, .unk _, h => by simp at h; exact .inl h.symm
  | _, _, i + 1, _, .same c, h => Cov.at (i := i) c (by simpa using h)
  | _, _, i + 1, _, .unk c, h => Cov.at (i := i) c (by simpa using h)
theorem SE.cov {a b : List En} (s : SE G σ a) (c : Cov a b) : SE G σ b := ⟨by rw [s.1]; exact c.len, fun i e h => by
  rcases c.at h with z | z
  · subst z; trivial
  · exact s.2 i e z⟩
theorem ST.cov (st : ST Γ es F G H σ) (c : Cov es es') : ST Γ es' F G H σ := ⟨⟨st.s.f, st.s.se.cov c⟩, st.g, st.fr, st.kn⟩
theorem go_cov (c : Cov es es') (h : Go Γ es' F P) : Go Γ es F P := fun G H σ st => h G H σ (st.cov c)
theorem go_inv (c : Cov es es') : Go Γ es F (InvP Γ es' F) := fun G H σ st => ⟨G, st.cov c⟩
theorem go_of_inv (h : Go Γ es F P) {σ : L2.St} {H : Hp} (p : InvP Γ es F σ H) : P σ H := by
  obtain ⟨G, st⟩ := p
  exact h G H σ st

/-! assignments -/
theorem go_asg (h : EvX te es F d F1) (k : Go Γ (es.set i (.dat d)) F1 (tz Dn)) : Go Γ es F (tSeq (tAsg te (gName i)) tz Dn) := fun G H σ st =>
  h.2 G H σ st.s _ fun v G2 H2 s2 g r => k G2 H2 _ ((st.step s2 g h.1).set r i)
theorem go_asgV (h : EvV te es F v F1) (k : Go Γ (es.set i (.val v)) F1 (tz Dn)) : Go Γ es F (tSeq (tAsg te (gName i)) tz Dn) := fun G H σ st =>
  h.2 G H σ st.s _ fun G2 H2 s2 g => k G2 H2 _ ((st.step s2 g h.1).setV i)
theorem nd_free (st : ST Γ es F G H σ) {p : Addr} (hp : H p = none) : Γ.H p = none ∨ p ∈ Γ.S := by
  cases q : Γ.H p with
  | none => exact .inl rfl
  | some o =>
    by_cases hs : p ∈ Γ.S
    · exact .inr hs
    · rw [st.g.fr p o hs q] at hp; cases hp
/-- a new list that is owned -/
theorem go_new (h : EvN te es F ds F1) (k : ∀ l, Go Γ (es.set i (.val (.ref l))) (F1 ++ [(l, .own ds)]) (tz Dn)) : Go Γ es F (tSeq (tAsg te (gName i)) tz Dn) := fun G H σ st =>
  h.2 G H σ st.s _ fun p xs G2 H2 s2 g hp gp hq r => by
    have st2 := st.step s2 g h.1
    have np : p ∉ ad F1 := fun z => by
      rw [h.1] at z
      obtain ⟨q, hq, e⟩ := List.mem_map.mp z
      obtain ⟨o, h2⟩ := (st.s.f.sf q hq).2.some
      rw [e, hp] at h2
      cases h2
    refine k p G2 H2 _ ⟨⟨⟨s2.f.gh, fun q hq2 => ?_, ?_⟩, s2.se.set (e := .val (.ref p)) rfl i⟩, st2.g, fun a ha => ?_, st2.kn⟩
    · rcases List.mem_append.mp hq2 with z | z
      · exact s2.f.sf q z
      · have e : q = (p, .own ds) := by simpa using z
        subst e
        exact ⟨gp, xs, hq, r⟩
    · rw [List.map_append]
      refine List.nodup_append.mpr ⟨s2.f.nd, by simp, fun a ha b hb => ?_⟩
      have e : b = p := by simpa using hb
      subst e
      rintro rfl
      exact np ha
    · unfold ad at ha
      rw [List.map_append] at ha
      rcases List.mem_append.mp ha with z | z
      · exact st2.fr a z
      · have e : a = p := by simpa using z
        subst e
        exact (nd_free st hp).symm
theorem SF.put {F R : Fs} {G H : Hp} {a : Addr} {f f' : FO} {o : HO} (s : SF (F ++ (a, f) :: R) G H) (hf : FOk G (upd H a o) a f') : SF (F ++ (a, f') :: R) G (upd H a o) := by
  have ga : G a = none := (s.sf (a, f) (List.mem_append_right _ List.mem_cons_self)).1
  have nd := s.nd
  rw [List.map_append, List.map_cons] at nd
  have n1 : ∀ q ∈ F, q.1 ≠ a := fun q hq e => (List.nodup_append.mp nd).2.2 q.1 (List.mem_map_of_mem hq) a List.mem_cons_self e
  have n2 : ∀ q ∈ R, q.1 ≠ a := fun q hq e => (List.nodup_cons.mp (List.nodup_append.mp nd).2.1).1 (by have z := List.mem_map_of_mem (f := fun z : Addr × FO => z.1) hq; rw [e] at z; exact z)
  have keep : ∀ q : Addr × FO, q.1 ≠ a → FOk G H q.1 q.2 → FOk G (upd H a o) q.1 q.2 := fun q ne h => h.mono (Evl.Ex.refl G) fun o' e => by rw [upd_ne ne]; exact e
  refine ⟨fun b u q => ?_, fun q hq => ?_, by rw [List.map_append, List.map_cons]; exact nd⟩
  · rw [upd_ne (fun e => by rw [e, ga] at q; cases q)]
    exact s.gh b u q
  · rcases List.mem_append.mp hq with z | z
    · have z2 := s.sf q (List.mem_append_left _ z)
      exact ⟨z2.1, keep q (n1 q z) z2.2⟩
    · rcases List.mem_cons.mp z with z | z
      · subst z
        exact ⟨ga, hf⟩
      · have z2 := s.sf q (List.mem_append_right _ (List.mem_cons_of_mem _ z))
        exact ⟨z2.1, keep q (n2 q z) z2.2⟩
theorem gro_put {S : List Addr} {G H : Hp} {a : Addr} {o : HO} (gh : Ex G H) (ga : G a = none) (ha : a ∈ S) : Gro S G H G (upd H a o) :=
  ⟨Evl.Ex.refl G, fun b u q => by rw [upd_ne (fun e => by rw [e, ga] at q; cases q)]; exact gh b u q, fun b u n q => by rw [upd_ne (fun e => n (by rw [e]; exact ha))]; exact q, fun _ _ _ _ => rfl⟩
theorem mem_ad {F R : Fs} {a : Addr} {f : FO} : a ∈ ad (F ++ (a, f) :: R) := by
  unfold ad
  rw [List.map_append, List.map_cons]
  exact List.mem_append_right _ List.mem_cons_self
theorem ad_put {F R : Fs} {a : Addr} {f f' : FO} : ad (F ++ (a, f') :: R) = ad (F ++ (a, f) :: R) := by
  unfold ad
  rw [List.map_append, List.map_cons, List.map_append, List.map_cons]
/-- l.append(e), l an owned list -/
theorem go_append {K : PySem.W.Frag} {l : Addr} {F2 R2 : Fs} (ho : EvV ta es (F1 ++ (l, .own ds) :: R) (.ref l) (F1 ++ (l, .own ds) :: R)) (h : EvX te es (F1 ++ (l, .own ds) :: R) d (F2 ++ (l, .own ds) :: R2)) (hl : ds.length < 100000)
    (k : Go Γ es (F2 ++ (l, .own (ds ++ [d])) :: R2) (tz Dn)) : Go Γ es (F1 ++ (l, .own ds) :: R) (tSeq (tDrop (tBM K "list" rAppend ta (tCons te tNil))) tz Dn) := fun G H σ st =>
  ho.2 G H σ st.s _ fun G1 H1 s1 g1 => by
    obtain ⟨_, ys, hy, _⟩ := s1.f.sf (l, .own ds) (List.mem_append_right _ List.mem_cons_self)
    refine ⟨.inl ⟨rfl, ys, .inl (.inl hy)⟩, ?_⟩
    refine h.2 G1 H1 σ s1 _ fun v G2 H2 s2 g2 r => ?_
    obtain ⟨ga, xs, hx, rx⟩ := s2.f.sf (l, .own ds) (List.mem_append_right _ List.mem_cons_self)
    have st2 := (st.step s1 g1 rfl).step s2 g2 h.1
    refine ⟨l, xs, v, rfl, rfl, hx, by rw [rx.len]; exact Evl.sz_lt hl, ?_⟩
    have sf2 := s2.f.put (f' := .own (ds ++ [d])) (o := .lst (xs ++ [v])) ⟨_, upd_same, rx.app (.cons r .nil)⟩
    exact k G2 _ σ (st2.step ⟨sf2, s2.se⟩ (gro_put s2.gex ga mem_ad) ad_put)
/-- l[i] = e, l an owned list -/
theorem go_setL {l : Addr} {F2 R2 : Fs} (h : EvX te es (F1 ++ (l, .own ds) :: R) d (F2 ++ (l, .own ds) :: R2)) (ho : EvV ta es (F2 ++ (l, .own ds) :: R2) (.ref l) (F2 ++ (l, .own ds) :: R2)) (hi : EvX tl es (F2 ++ (l, .own ds) :: R2) (.int n) (F2 ++ (l, .own ds) :: R2)) (hn : ixN ds.length n = some j)
    (k : Go Γ es (F2 ++ (l, .own (ds.set j d)) :: R2) (tz Dn)) : Go Γ es (F1 ++ (l, .own ds) :: R) (tSeq (tAsg te (gSub ta tl rSetL)) tz Dn) := fun G H σ st =>
  h.2 G H σ st.s _ fun v G1 H1 s1 g1 r => ho.2 G1 H1 σ s1 _ fun G2 H2 s2 g2 => hi.2 G2 H2 σ s2 _ fun w G3 H3 s3 g3 r3 => by
    rw [rp_int r3]
    obtain ⟨ga, xs, hx, rx⟩ := s3.f.sf (l, .own ds) (List.mem_append_right _ List.mem_cons_self)
    have st3 := ((st.step s1 g1 h.1).step s2 g2 rfl).step s3 g3 rfl
    refine ⟨l, xs, n, j, rfl, rfl, hx, by rw [rx.len]; exact hn, ?_⟩
    have sf2 := s3.f.put (f' := .own (ds.set j d)) (o := .lst (xs.set j v)) ⟨_, upd_same, RpA.set (r.mono (g2.gg.trans g3.gg)) j rx⟩
    exact k G3 _ σ (st3.step ⟨sf2, s3.se⟩ (gro_put s3.gex ga mem_ad) ad_put)
/-- an owned list is changed no more: it is data -/
theorem go_freeze {l : Addr} (hi : es[i]? = some (.val (.ref l))) (k : Go Γ (es.set i (.dat (.lst ds))) (F ++ R) P) : Go Γ es (F ++ (l, .own ds) :: R) P := fun G H σ st => by
  obtain ⟨ga, xs, hx, rx⟩ := st.s.f.sf (l, .own ds) (List.mem_append_right _ List.mem_cons_self)
  have e1 : Ex G (upd G l (.lst xs)) := Evl.Ex.new ga
  have nd := st.s.f.nd
  rw [List.map_append, List.map_cons] at nd
  have n1 : ∀ q ∈ F, q.1 ≠ l := fun q hq e => (List.nodup_append.mp nd).2.2 q.1 (List.mem_map_of_mem hq) l List.mem_cons_self e
  have n2 : ∀ q ∈ R, q.1 ≠ l := fun q hq e => (List.nodup_cons.mp (List.nodup_append.mp nd).2.1).1 (by have z := List.mem_map_of_mem (f := fun z : Addr × FO => z.1) hq; rw [e] at z; exact z)
  have gh : Ex (upd G l (.lst xs)) H := fun a u q => by
    by_cases z : a = l
    · subst z; rw [upd_same] at q; rw [hx]; exact q
    · rw [upd_ne z] at q; exact st.s.gex a u q
  have keep : ∀ q ∈ F ++ R, q ∈ F ++ (l, FO.own ds) :: R ∧ q.1 ≠ l := fun q hq => by
    rcases List.mem_append.mp hq with z | z
    · exact ⟨List.mem_append_left _ z, n1 q z⟩
    · exact ⟨List.mem_append_right _ (List.mem_cons_of_mem _ z), n2 q z⟩
  have hσ := slot_val st.s.se hi
  have se2 := (st.s.se.mono e1).set (e := .dat (.lst ds)) (x := some (.ref l)) ⟨_, rfl, .lst upd_same (rx.mono e1)⟩ i
  have eσ : σ.set i (some (.ref l)) = σ := by
    apply List.ext_getElem?
    intro j
    by_cases q : i = j
    · subst q
      rw [List.getElem?_set_self', hσ]
      rfl
    · rw [List.getElem?_set_ne q]
  rw [eσ] at se2
  refine k (upd G l (.lst xs)) H σ ⟨⟨⟨gh, fun q hq => ?_, ?_⟩, se2⟩, ⟨st.g.gg.trans e1, gh, st.g.fr, fun a o n q => ?_⟩, fun a ha => st.fr a ?_, fun p hp => ⟨e1 _ _ (st.kn p hp).1, (st.kn p hp).2.mono e1⟩⟩
  · obtain ⟨z1, z2⟩ := keep q hq
    have z := st.s.f.sf q z1
    exact ⟨by rw [upd_ne z2]; exact z.1, z.2.mono e1 fun _ y => y⟩
  · rw [List.map_append]
    have nd2 := List.nodup_append.mp nd
    exact List.nodup_append.mpr ⟨nd2.1, (List.nodup_cons.mp nd2.2.1).2, fun a ha b hb => nd2.2.2 a ha b (List.mem_cons_of_mem _ hb)⟩
  · have ne : a ≠ l := fun e => by
      subst e
      rcases st.fr a mem_ad with z | z
      · exact n z
      · rw [z] at q; cases q
    rw [upd_ne ne]
    exact st.g.fz a o n q
  · obtain ⟨q, hq, e⟩ := List.mem_map.mp ha
    rw [← e]
    exact List.mem_map_of_mem (f := fun z : Addr × FO => z.1) (keep q hq).1

/-! branches, ends -/
theorem go_drop (h : EvX te es F d F1) (k : Go Γ es F1 (tz Dn)) : Go Γ es F (tSeq (tDrop te) tz Dn) := fun G H σ st =>
  h.2 G H σ st.s _ fun v G2 H2 s2 g r => k G2 H2 _ (st.step s2 g h.1)
theorem go_if (h : EvT t es F b F1) (h1 : b = true → Go Γ es F1 (tu { Dn with nx := tz Dn })) (h2 : b = false → Go Γ es F1 (tw { Dn with nx := tz Dn })) : Go Γ es F (tSeq (tIfS t tu tw) tz Dn) := fun G H σ st =>
  h.2 G H σ st.s _ fun G2 H2 s2 g => by
    cases b with
    | true => exact h1 rfl G2 H2 σ (st.step s2 g h.1)
    | false => exact h2 rfl G2 H2 σ (st.step s2 g h.1)
theorem go_ifP {p : Prop} [Decidable p] (h : EvT t es F (decide p) F1) (h1 : p → Go Γ es F1 (tu { Dn with nx := tz Dn })) (h2 : ¬ p → Go Γ es F1 (tw { Dn with nx := tz Dn })) : Go Γ es F (tSeq (tIfS t tu tw) tz Dn) :=
  go_if h (fun q => h1 (of_decide_eq_true q)) (fun q => h2 (of_decide_eq_false q))
theorem go_if1 (h : EvT t es F b F1) (h1 : b = true → Go Γ es F1 (tu Dn)) (h2 : b = false → Go Γ es F1 (tw Dn)) : Go Γ es F (tIfS t tu tw Dn) := fun G H σ st =>
  h.2 G H σ st.s _ fun G2 H2 s2 g => by
    cases b with
    | true => exact h1 rfl G2 H2 σ (st.step s2 g h.1)
    | false => exact h2 rfl G2 H2 σ (st.step s2 g h.1)
theorem go_ifP1 {p : Prop} [Decidable p] (h : EvT t es F (decide p) F1) (h1 : p → Go Γ es F1 (tu Dn)) (h2 : ¬ p → Go Γ es F1 (tw Dn)) : Go Γ es F (tIfS t tu tw Dn) :=
  go_if1 h (fun q => h1 (of_decide_eq_true q)) (fun q => h2 (of_decide_eq_false q))
/-- a statement, then the rest, with a known state between -/
theorem go_cut (h : ∀ N : L2.St → Hp → Prop, Go Γ es' F1 N → Go Γ es F (tu { Dn with nx := N })) (k : Go Γ es' F1 (tz Dn)) : Go Γ es F (tSeq tu tz Dn) := h _ k
theorem go_nx (h : Go Γ es F Dn.nx) : Go Γ es F (tNext Dn) := h
theorem go_ret (h : EvX te es F d F1) (k : ∀ v G H σ, ST Γ es F1 G H σ → Rp G v d → Dn.rt v H) : Go Γ es F (tSeq (tRet te) tz Dn) := fun G H σ st =>
  h.2 G H σ st.s _ fun v G2 H2 s2 g r => k v G2 H2 σ (st.step s2 g h.1) r

/-! promises -/
/-- what is wanted of a result -/
def Ret (Γ : Cn) (F' : Fs) (r : D) (Q : VK) : Prop := ∀ v G2 H2, SF F' G2 H2 → Gro Γ.S Γ.G Γ.H G2 H2 → Rp G2 v r → Q v H2
theorem go_rt {F' : Fs} {r : D} (hr : Ret Γ F' r Dn.rt) (h : EvX te es F r (F' ++ R)) : Go Γ es F (tSeq (tRet te) tz Dn) := go_ret h fun v G H σ st q => hr v G H st.s.f.left st.g q
theorem go_end {F' : Fs} {Q : VK} (hr : Ret Γ F' .non Q) : Go Γ es (F' ++ R) (fun _ H => Q .non H) := fun G H σ st => hr .non G H st.s.f.left st.g .non
/-- a def's promise, by its instances: arguments, owned objects ahead, result, owned objects behind -/
abbrev Inst := List En → Fs → D → Fs → Prop
def spD (I : Inst) : Sp := fun vs H Q _ => ∃ as F r F' G, I as F r F' ∧ AO G vs as ∧ SF F G H ∧ ∀ v G2 H2, SF F' G2 H2 → Gro (ad F) G H G2 H2 → Rp G2 v r → Q v H2
theorem start_se {N : List Str} {vs : List V} {as : List En} {G : Hp} (h : AO G vs as) (hl : as.length ≤ N.length) : SE G (L2.start N vs) (as ++ List.replicate (N.length - as.length) .unk) := by
  have l := h.len
  refine ⟨by unfold L2.start; rw [List.length_append, List.length_append, List.length_map, List.length_replicate, List.length_replicate, l], fun i e q => ?_⟩
  by_cases hi : i < as.length
  · rw [List.getElem?_append_left hi] at q
    unfold L2.start
    rw [List.getElem?_append_left (by rw [List.length_map, l]; exact hi), List.getElem?_map]
    clear hl l
    induction h generalizing i with
    | nil => simp at hi
    | dat r _ ih =>
      cases i with
      | zero => simp at q; subst q; exact ⟨_, rfl, r⟩
      | succ i => exact ih i (by simpa using q) (by simpa using hi)
    | val _ ih =>
      cases i with
      | zero => simp at q; subst q; rfl
      | succ i => exact ih i (by simpa using q) (by simpa using hi)
  · rw [List.getElem?_append_right (by omega)] at q
    rw [List.getElem?_replicate] at q
    split at q
    · cases q; trivial
    · cases q
/-- into a def's body -/
theorem enter {N : List Str} {vs : List V} {H : Hp} {Q : VK} {E : XK} {I : Inst} {t : TS} (h : spD I vs H Q E) (hl : ∀ as F r F', I as F r F' → as.length ≤ N.length)
    (k : ∀ as F r F' Γ, I as F r F' → Γ.S = ad F → (∀ Dn : Ends, Dn.nx = (fun _ H' => Dn.rt .non H') → Ret Γ F' r Dn.rt → Go Γ (as ++ List.replicate (N.length - as.length) .unk) F (t Dn))) :
    t { nx := fun _ H' => Q .non H', rt := Q } (L2.start N vs) H := by
  obtain ⟨as, F, r, F', G, hI, hA, hF, hQ⟩ := h
  exact k as F r F' ⟨ad F, G, H, []⟩ hI rfl ⟨fun _ H' => Q .non H', Q, _, _⟩ rfl hQ G H _ ⟨⟨hF, start_se hA (hl _ _ _ _ hI)⟩, .refl hF.gh, fun a ha => .inl ha, fun p hp => (by cases hp)⟩
theorem spD_len {I : Inst} {n : Nat} (h : ∀ as F r F', I as F r F' → as.length = n) : ∀ (vs : List V) (H : Hp) (Q : VK) (E : XK), spD I vs H Q E → vs.length = n := fun vs H Q E ⟨as, F, r, F', G, hI, hA, _⟩ => by
  rw [hA.len]; exact h _ _ _ _ hI
/-- a call -/
theorem evx_call {I : Inst} {Fd Fd' : Fs} {r : D} {E : XK} (ha : EvA tas es F as (Fd ++ R)) (hI : I as Fd r Fd') (he : ad Fd' = ad Fd) : EvX (tCall (spD I) [] E tas) es F r (Fd' ++ R) := ⟨by
    rw [← ha.1]; unfold ad at he ⊢; rw [List.map_append, List.map_append, he], fun G H σ s Q k =>
  ha.2 G H σ s _ fun vs G1 H1 s1 g1 r1 => by
    rw [List.append_nil]
    refine ⟨as, Fd, r, Fd', G1, hI, r1, s1.f.left, fun v G2 H2 s2 g2 r2 => ?_⟩
    have g3 : Gro (ad (Fd ++ R)) G1 H1 G2 H2 := g2.wide fun x hx => by unfold ad at hx ⊢; rw [List.map_append]; exact List.mem_append_left _ hx
    exact k v G2 H2 ⟨SF.keep s1.f g2 s2 he, s1.se.mono g2.gg⟩ (g1.then ha.1 g3) r2⟩
theorem evx_call0 {I : Inst} {r : D} {E : XK} (ha : EvA tas es F as F1) (hI : I as [] r []) : EvX (tCall (spD I) [] E tas) es F r F1 := evx_call (Fd := []) (Fd' := []) ha hI rfl
theorem evx_call1 {I : Inst} {r : D} {E : XK} {a : Addr} {f f' : FO} (ha : EvA tas es F as ((a, f) :: R)) (hI : I as [(a, f)] r [(a, f')]) : EvX (tCall (spD I) [] E tas) es F r ((a, f') :: R) := evx_call (Fd := [(a, f)]) (Fd' := [(a, f')]) ha hI rfl
/-- o.m(..) of an object that is data -/
theorem evx_meth {I : Inst} {r : D} {E : XK} {C : Addr} {mn : Str} {ns : List Str} (ho : EvX ta es F (.obj C ns ds) F1) (hm : mn ∉ ns) (ha : EvA tas es F1 as F2) (hI : I (.dat (.obj C ns ds) :: as) [] r []) : EvX (tMeth C mn (spD I) [] E ta tas) es F r F2 :=
  ⟨ha.1.trans ho.1, fun G H σ s Q k => ho.2 G H σ s _ fun v G1 H1 s1 g1 r1 => by
    obtain ⟨a, dx, fs, rfl, h1, h2, h3⟩ := rp_obj r1
    refine ⟨a, dx, fs, rfl, s1.gex _ _ h1, ?_, ?_⟩
    · cases q : fs.lookup mn with
      | none => rfl
      | some z =>
        have hmem : mn ∈ fs.map (·.1) := by
          clear h2 h3 h1 r1
          induction fs with
          | nil => cases q
          | cons p l ih =>
            obtain ⟨f, z2⟩ := p
            rw [List.lookup_cons] at q
            by_cases e : mn = f
            · subst e; exact List.mem_cons_self
            · have e2 : (mn == f) = false := by simpa using e
              rw [e2] at q
              exact List.mem_cons_of_mem _ (ih q)
        rw [h2] at hmem
        exact absurd hmem hm
    · refine ha.2 G1 H1 σ s1 _ fun vs G2 H2 s2 g2 r2 => ?_
      rw [List.append_nil]
      refine ⟨_, [], r, [], G2, hI, .dat (r1.mono g2.gg) r2, .nil s2.gex, fun v G3 H3 s3 g3 r3 => ?_⟩
      exact k v G3 H3 (s2.grow g3) ((g1.then ho.1 g2).then0 g3) r3⟩
/-- o.f of an object that is data -/
def fldD : List Str → List D → Str → Option D
  | n :: ns, d :: ds, f => if f = n then some d else fldD ns ds f
  | _, _, _ => none
theorem fldD_ok {G : Hp} {f : Str} : ∀ {fs : List (Str × V)} {ns : List Str} {ds : List D} {d : D}, fs.map (·.1) = ns → RpA G (fs.map (·.2)) ds → fldD ns ds f = some d → ∃ v, fs.lookup f = some v ∧ Rp G v d
  | [], ns, ds, d, e, r, h => by subst e; cases h
  | (n, v) :: fs, ns, ds, d, e, r, h => by
    subst e
    cases r with
    | cons r1 r2 =>
      rename_i d1 ds1
      have h2 : (if f = n then some d1 else fldD (fs.map (·.1)) ds1 f) = some d := h
      by_cases q : f = n
      · subst q
        rw [if_pos rfl] at h2
        cases h2
        exact ⟨v, by simp [List.lookup], r1⟩
      · rw [if_neg q] at h2
        obtain ⟨w, h3, h4⟩ := fldD_ok rfl r2 h2
        have e2 : (f == n) = false := by simpa using q
        exact ⟨w, by rw [List.lookup_cons, e2]; exact h3, h4⟩
theorem evx_fld {K : PySem.W.Frag} {C : Addr} {ns : List Str} {f : Str} (ho : EvX ta es F (.obj C ns ds) F1) (hc : Cls K C) (hn : NoAttr K C f) (hf : fldD ns ds f = some d) : EvX (tFld K ta f) es F d F1 := ⟨ho.1, fun G H σ s Q k => ho.2 G H σ s _ fun v G1 H1 s1 g1 r1 => by
  obtain ⟨a, dx, fs, rfl, h1, h2, h3⟩ := rp_obj r1
  obtain ⟨w, h4, h5⟩ := fldD_ok h2 h3 hf
  exact ⟨a, C, dx, fs, w, rfl, s1.gex _ _ h1, hc, hn, h4, k w G1 H1 s1 g1 h5⟩⟩
end
end DL
set_option Elab.async false
set_option linter.all false
set_option maxRecDepth 100000
set_option maxHeartbeats 4000000
namespace DL
open PySem L2
open Evl (Ex)
section
variable {Γ : Cn} {es es' es1 es2 : List En} {F F1 F2 R : Fs} {G H G2 H2 : Hp} {σ : L2.St} {ta te tl : TE} {t u tt : TT} {tas : TA} {d : D} {v : V} {b : Bool} {i j k : Nat} {n m lo : Int} {as : List En} {ds cs : List D} {Dn : Ends} {tz tu tw tb : TS} {P : L2.St → Hp → Prop} {g : TG} {gs : TGs} {js : List Nat} {K : PySem.W.Frag}

/-! ### targets -/
/-- σ' is σ but at js -/
def AtOnly {α : Type} (js : List Nat) (σ σ' : List α) : Prop := σ'.length = σ.length ∧ ∀ i : Nat, i ∉ js → σ'[i]? = σ[i]?
theorem AtOnly.refl {α : Type} (σ : List α) : AtOnly [] σ σ := ⟨rfl, fun _ _ => rfl⟩
theorem AtOnly.set {α : Type} (σ : List α) (x : α) (j : Nat) : AtOnly [j] σ (σ.set j x) := ⟨List.length_set .., fun i hi => List.getElem?_set_ne (fun e => hi (by rw [e]; exact List.mem_cons_self))⟩
theorem AtOnly.app {α : Type} {js1 js2 : List Nat} {σ σ1 σ2 : List α} (a1 : AtOnly js1 σ σ1) (a2 : AtOnly js2 σ1 σ2) : AtOnly (js1 ++ js2) σ σ2 := ⟨a2.1.trans a1.1, fun i hi => by
    rw [a2.2 i (fun z => hi (List.mem_append_right _ z)), a1.2 i (fun z => hi (List.mem_append_left _ z))]⟩
def GoG (g : TG) (d : D) (js : List Nat) (es es' : List En) : Prop := AtOnly js es es' ∧ ∀ (Γ : Cn) (F : Fs) (v : V) (G H : Hp) (σ : L2.St) (N : L2.St → Hp → Prop), ST Γ es F G H σ → Rp G v d → (∀ σ', AtOnly js σ σ' → ST Γ es' F G H σ' → N σ' H) → g v σ H N
def GoGs (g : TGs) (ds : List D) (js : List Nat) (es es' : List En) : Prop := AtOnly js es es' ∧ ∀ (Γ : Cn) (F : Fs) (vs : List V) (G H : Hp) (σ : L2.St) (N : L2.St → Hp → Prop), ST Γ es F G H σ → RpA G vs ds → (∀ σ', AtOnly js σ σ' → ST Γ es' F G H σ' → N σ' H) → g vs σ H N
theorem gog_name : GoG (gName j) d [j] es (es.set j (.dat d)) := ⟨.set _ _ _, fun Γ F v G H σ N st r k => k _ (.set _ _ _) (st.set r j)⟩
theorem gogs_nil : GoGs gNil [] [] es es := ⟨.refl _, fun Γ F vs G H σ N st r k => by
  cases r
  exact ⟨rfl, k σ (.refl _) st⟩⟩
theorem gogs_cons {js1 js2 : List Nat} (h1 : GoG g d js1 es es1) (h2 : GoGs gs ds js2 es1 es2) : GoGs (gCons g gs) (d :: ds) (js1 ++ js2) es es2 := ⟨h1.1.app h2.1, fun Γ F vs G H σ N st r k => by
  cases r with
  | cons r1 r2 => exact ⟨_, _, rfl, h1.2 Γ F _ G H σ _ st r1 fun σ1 a1 st1 => h2.2 Γ F _ G H σ1 _ st1 r2 fun σ2 a2 st2 => k σ2 (a1.app a2) st2⟩⟩
theorem gog_tup {n : Nat} (h : GoGs gs cs js es es1) (hn : cs.length = n) : GoG (gTup K n gs) (.tup cs) js es es1 := ⟨h.1, fun Γ F v G H σ N st r k => by
  obtain ⟨a, xs, rfl, h1, h2⟩ := rp_tup r
  exact ⟨a, xs, rfl, .inl (.inl (st.s.gex _ _ h1)), h2.len.trans hn, h.2 Γ F xs G H σ N st h2 k⟩⟩
theorem go_asgG (h : EvX te es F d F1) (hg : GoG g d js es es1) (k : Go Γ es1 F1 (tz Dn)) : Go Γ es F (tSeq (tAsg te g) tz Dn) := fun G H σ st =>
  h.2 G H σ st.s _ fun v G2 H2 s2 gr r => hg.2 Γ F1 v G2 H2 σ _ (st.step s2 gr h.1) r fun σ' _ st' => k G2 H2 σ' st'
theorem gog_tup2 {c1 c2 : D} {j1 j2 : Nat} : GoG (gTup K 2 (gCons (gName j1) (gCons (gName j2) gNil))) (.tup [c1, c2]) [j1, j2] es ((es.set j1 (.dat c1)).set j2 (.dat c2)) := gog_tup (gogs_cons gog_name (gogs_cons gog_name gogs_nil)) rfl
theorem gog_tup3 {c1 c2 c3 : D} {j1 j2 j3 : Nat} : GoG (gTup K 3 (gCons (gName j1) (gCons (gName j2) (gCons (gName j3) gNil)))) (.tup [c1, c2, c3]) [j1, j2, j3] es (((es.set j1 (.dat c1)).set j2 (.dat c2)).set j3 (.dat c3)) := gog_tup (gogs_cons gog_name (gogs_cons gog_name (gogs_cons gog_name gogs_nil))) rfl
theorem gog_tup4 {c1 c2 c3 c4 : D} {j1 j2 j3 j4 : Nat} : GoG (gTup K 4 (gCons (gName j1) (gCons (gName j2) (gCons (gName j3) (gCons (gName j4) gNil))))) (.tup [c1, c2, c3, c4]) [j1, j2, j3, j4] es ((((es.set j1 (.dat c1)).set j2 (.dat c2)).set j3 (.dat c3)).set j4 (.dat c4)) := gog_tup (gogs_cons gog_name (gogs_cons gog_name (gogs_cons gog_name (gogs_cons gog_name gogs_nil)))) rfl

theorem go_append2 {l : Addr} {q q2 : Addr × FO} (ho : EvV ta es [q, (l, .own ds)] (.ref l) [q, (l, .own ds)]) (h : EvX te es [q, (l, .own ds)] d [q2, (l, .own ds)]) (hl : ds.length < 100000)
    (k : Go Γ es [q2, (l, .own (ds ++ [d]))] (tz Dn)) : Go Γ es [q, (l, .own ds)] (tSeq (tDrop (tBM K "list" rAppend ta (tCons te tNil))) tz Dn) := go_append (F1 := [q]) (R := []) (F2 := [q2]) (R2 := []) ho h hl k
theorem go_append1 {l : Addr} (ho : EvV ta es [(l, .own ds)] (.ref l) [(l, .own ds)]) (h : EvX te es [(l, .own ds)] d [(l, .own ds)]) (hl : ds.length < 100000)
    (k : Go Γ es [(l, .own (ds ++ [d]))] (tz Dn)) : Go Γ es [(l, .own ds)] (tSeq (tDrop (tBM K "list" rAppend ta (tCons te tNil))) tz Dn) := go_append (F1 := []) (R := []) (F2 := []) (R2 := []) ho h hl k
theorem go_freeze2 {l : Addr} {q : Addr × FO} (hi : es[i]? = some (.val (.ref l))) (k : Go Γ (es.set i (.dat (.lst ds))) [q] P) : Go Γ es [q, (l, .own ds)] P := go_freeze (F := [q]) (R := []) hi k
theorem go_freeze1 {l : Addr} (hi : es[i]? = some (.val (.ref l))) (k : Go Γ (es.set i (.dat (.lst ds))) [] P) : Go Γ es [(l, .own ds)] P := go_freeze (F := []) (R := []) hi k
/-- from a state that is the same, told otherwise -/
theorem go_as (k : Go Γ es' F1 P) (e1 : es = es' := by rfl) (e2 : F = F1 := by rfl) : Go Γ es F P := by subst e1 e2; exact k
theorem go_rt0 {F' : Fs} {r : D} (hr : Ret Γ F' r Dn.rt) (h : EvX te es F r F') : Go Γ es F (tSeq (tRet te) tz Dn) := go_rt (R := []) hr (by rw [List.append_nil]; exact h)
/-! ### for -/
/-- the context with a list known -/
abbrev Cn.know (Γ : Cn) (a : Addr) (xs : List V) (ds : List D) : Cn := { Γ with K := (a, xs, ds) :: Γ.K }
theorem ST.unknow {a : Addr} {xs : List V} (st : ST (Γ.know a xs ds) es F G H σ) : ST Γ es F G H σ := ⟨st.s, st.g, st.fr, fun p hp => st.kn p (List.mem_cons_of_mem _ hp)⟩
theorem ST.know {a : Addr} {xs : List V} (st : ST Γ es F G H σ) (h : G a = some (.lst xs)) (r : RpA G xs ds) : ST (Γ.know a xs ds) es F G H σ := ⟨st.s, st.g, st.fr, fun p hp => by
  rcases List.mem_cons.mp hp with z | z
  · subst z; exact ⟨h, r⟩
  · exact st.kn p z⟩
theorem ao_int {vs : List V} (h : AO G vs [.dat (.int n)]) : vs = [.int n] := by
  obtain ⟨v, rfl, r⟩ := ao1 h
  rw [rp_int r]
theorem ao_int2 {vs : List V} (h : AO G vs [.dat (.int n), .dat (.int m)]) : vs = [.int n, .int m] := by
  obtain ⟨v, w, rfl, r1, r2⟩ := ao2 h
  rw [rp_int r1, rp_int r2]
theorem go_forR1 (h : EvA tas es F [.dat (.int n)] F1) (hn : n ≤ 1000000000) (ie : Nat → List En) (iF : Nat → Fs) (h0 : Go Γ es F1 (InvP Γ (ie 0) (iF 0)))
    (hs : ∀ i : Nat, (i : Int) < n → Go Γ ((ie i).set j (.dat (.int (i : Int)))) (iF i) (tb { Dn with nx := InvP Γ (ie (i + 1)) (iF (i + 1)), ct := InvP Γ (ie (i + 1)) (iF (i + 1)), bk := tz Dn }))
    (hd : Go Γ (ie n.toNat) (iF n.toNat) (tz Dn)) (hl : -1000000000 ≤ n := by omega) : Go Γ es F (tSeq (tFor (iRng1 tas) (gName j) tb) tz Dn) := fun G H σ st =>
  h.2 G H σ st.s _ fun vs G1 H1 s1 g1 r1 => ⟨n, ao_int r1, by omega, by omega,
    for_range (lo := 0) (n := n.toNat) (fun i σ H => InvP Γ (ie i) (iF i) σ H) (h0 G1 H1 σ (st.step s1 g1 h.1)) (fun i σ' H' hi ⟨G', st'⟩ => by
      have e : (0 : Int) + (i : Int) = (i : Int) := Int.zero_add _
      show tb _ (σ'.set j (some (.int (0 + (i : Int))))) H'
      rw [e]
      exact hs i (by omega) G' H' _ (st'.set (.int _) j)) (fun σ' H' ⟨G', st'⟩ => hd G' H' σ' st')⟩
theorem go_forR2 (h : EvA tas es F [.dat (.int lo), .dat (.int n)] F1) (hn : n ≤ 1000000000) (ie : Nat → List En) (iF : Nat → Fs) (h0 : Go Γ es F1 (InvP Γ (ie 0) (iF 0)))
    (hs : ∀ i : Nat, lo + (i : Int) < n → Go Γ ((ie i).set j (.dat (.int (lo + (i : Int))))) (iF i) (tb { Dn with nx := InvP Γ (ie (i + 1)) (iF (i + 1)), ct := InvP Γ (ie (i + 1)) (iF (i + 1)), bk := tz Dn }))
    (hd : Go Γ (ie (n - lo).toNat) (iF (n - lo).toNat) (tz Dn)) (hl : -1000000000 ≤ n := by omega) (hlo : -1000000000 ≤ lo ∧ lo ≤ 1000000000 := by omega) : Go Γ es F (tSeq (tFor (iRng2 tas) (gName j) tb) tz Dn) := fun G H σ st =>
  h.2 G H σ st.s _ fun vs G1 H1 s1 g1 r1 => ⟨lo, n, ao_int2 r1, by omega,
    for_range (lo := lo) (n := (n - lo).toNat) (fun i σ H => InvP Γ (ie i) (iF i) σ H) (h0 G1 H1 σ (st.step s1 g1 h.1)) (fun i σ' H' hi ⟨G', st'⟩ =>
      hs i (by omega) G' H' _ (st'.set (.int _) j)) (fun σ' H' ⟨G', st'⟩ => hd G' H' σ' st')⟩
theorem go_forL (h : EvX tl es F (.lst ds) F1) (ie : Nat → List En) (iF : Nat → Fs) (es1 : Nat → List En) (hg : ∀ i d, ds[i]? = some d → GoG g d js (ie i) (es1 i)) (h0 : ∀ Kn, Go { Γ with K := Kn } es F1 (InvP { Γ with K := Kn } (ie 0) (iF 0)))
    (hs : ∀ i d, ds[i]? = some d → ∀ Kn, Go { Γ with K := Kn } (es1 i) (iF i) (tb { Dn with nx := InvP { Γ with K := Kn } (ie (i + 1)) (iF (i + 1)), ct := InvP { Γ with K := Kn } (ie (i + 1)) (iF (i + 1)), bk := tz Dn }))
    (hd : Go Γ (ie ds.length) (iF ds.length) (tz Dn)) : Go Γ es F (tSeq (tFor (iList K tl) g tb) tz Dn) := fun G H σ st =>
  h.2 G H σ st.s _ fun v G1 H1 s1 g1 r1 => by
    obtain ⟨a, xs, rfl, h1, h2⟩ := rp_lst r1
    refine ⟨a, rfl, ⟨xs, .inl (.inl (s1.gex _ _ h1))⟩, for_list (K := K) (a := a) (xs := xs) (fun i σ H => InvP (Γ.know a xs ds) (ie i) (iF i) σ H) ?_ (fun i σ' H' _ ⟨G', st'⟩ => .inl (.inl (st'.s.gex _ _ (st'.kn _ List.mem_cons_self).1))) (fun i x σ' H' hi ⟨G', st'⟩ => ?_) (fun σ' H' ⟨G', st'⟩ => ?_)⟩
    · exact h0 ((a, xs, ds) :: Γ.K) G1 H1 σ ((st.step s1 g1 h.1).know h1 h2)
    · obtain ⟨d, hd1, hd2⟩ := (st'.kn _ List.mem_cons_self).2.getV hi
      exact (hg i d hd1).2 (Γ.know a xs ds) (iF i) x G' H' σ' _ st' hd2 fun σ2 _ st2 => hs i d hd1 ((a, xs, ds) :: Γ.K) G' H' σ2 st2
    · rw [h2.len] at st'
      exact hd G' H' σ' st'.unknow

/-! ### list comprehensions -/
def lcD (n : Nat) (bb : Nat → Bool) (dd : Nat → D) : List D := (List.range n).filterMap fun i => if bb i then some (dd i) else none
theorem lcD_yes {n : Nat} {bb : Nat → Bool} {dd : Nat → D} (h : bb n = true) : lcD (n + 1) bb dd = lcD n bb dd ++ [dd n] := by
  unfold lcD
  rw [List.range_succ, List.filterMap_append]
  simp [h]
theorem lcD_no {n : Nat} {bb : Nat → Bool} {dd : Nat → D} (h : bb n = false) : lcD (n + 1) bb dd = lcD n bb dd := by
  unfold lcD
  rw [List.range_succ, List.filterMap_append]
  simp [h]
theorem lcD_all (n : Nat) (dd : Nat → D) : lcD n (fun _ => true) dd = (List.range n).map dd := by
  unfold lcD
  induction n with
  | zero => rfl
  | succ n ih => rw [List.range_succ, List.filterMap_append, ih, List.map_append]; rfl
theorem lcD_map {α : Type} (xs : List α) (f : α → D) (dd : Nat → D) (h : ∀ i x, xs[i]? = some x → dd i = f x) : lcD xs.length (fun _ => true) dd = xs.map f := by
  rw [lcD_all]
  apply List.ext_getElem?
  intro i
  rw [List.getElem?_map, List.getElem?_map]
  by_cases hi : i < xs.length
  · rw [List.getElem?_range hi, List.getElem?_eq_getElem hi]
    exact congrArg some (h i _ (List.getElem?_eq_getElem hi))
  · rw [List.getElem?_eq_none (by rw [List.length_range]; omega), List.getElem?_eq_none (by omega)]
    rfl
theorem atI_ints {xs : List Int} {i : Int} (h0 : 0 ≤ i) (h1 : i < xs.length) : atI (xs.map D.int) i = some (.int (xs.getD i.toNat 0)) := by
  obtain ⟨j, rfl⟩ : ∃ j : Nat, i = (j : Int) := ⟨i.toNat, by omega⟩
  refine atI_nat ?_
  have hi : j < xs.length := by omega
  rw [List.getElem?_map, List.getElem?_eq_getElem hi]
  simp [List.getD, hi]
theorem lcD_len (n : Nat) (bb : Nat → Bool) (dd : Nat → D) : (lcD n bb dd).length ≤ n := by
  unfold lcD
  have h := List.length_filterMap_le (fun i => if bb i then some (dd i) else none) (List.range n)
  rw [List.length_range] at h
  exact h
def wipeE (es : List En) : List Nat → List En
  | [] => es
  | v :: vs => (wipeE es vs).set v .unk
theorem SE.wipe (s : SE G σ es) : ∀ vs : List Nat, SE G (wipe σ vs) (wipeE es vs)
  | [] => s
  | v :: vs => (SE.wipe s vs).set (e := .unk) trivial v
theorem wipe_at : ∀ (vs : List Nat) (σ : L2.St) (i : Nat), (wipe σ vs)[i]? = if i ∈ vs then (σ[i]?).map (fun _ => none) else σ[i]?
  | [], σ, i => by simp [wipe]
  | v :: vs, σ, i => by
    show ((wipe σ vs).set v none)[i]? = _
    rw [List.getElem?_set, wipe_length, wipe_at vs σ i]
    by_cases e : v = i
    · subst e
      rw [if_pos rfl, if_pos List.mem_cons_self]
      by_cases hl : v < σ.length
      · rw [if_pos hl, List.getElem?_eq_getElem hl]; rfl
      · rw [if_neg hl, List.getElem?_eq_none (by omega)]; rfl
    · rw [if_neg e]
      have e2 : ¬ i = v := fun z => e z.symm
      simp [e2]
theorem wipeE_at : ∀ (vs : List Nat) (σ : List En) (i : Nat), (wipeE σ vs)[i]? = if i ∈ vs then (σ[i]?).map (fun _ => .unk) else σ[i]?
  | [], σ, i => by simp [wipeE]
  | v :: vs, σ, i => by
    have wl : ∀ vs : List Nat, (wipeE σ vs).length = σ.length := by
      intro vs
      induction vs with
      | nil => rfl
      | cons v vs ih => show ((wipeE σ vs).set v .unk).length = _; rw [List.length_set, ih]
    show ((wipeE σ vs).set v .unk)[i]? = _
    rw [List.getElem?_set, wl, wipeE_at vs σ i]
    by_cases e : v = i
    · subst e
      rw [if_pos rfl, if_pos List.mem_cons_self]
      by_cases hl : v < σ.length
      · rw [if_pos hl, List.getElem?_eq_getElem hl]; rfl
      · rw [if_neg hl, List.getElem?_eq_none (by omega)]; rfl
    · rw [if_neg e]
      have e2 : ¬ i = v := fun z => e z.symm
      simp [e2]
theorem wipeE_only {js vs : List Nat} {σ σ' : List En} (h : AtOnly js (wipeE σ vs) σ') (hj : ∀ j ∈ js, j ∈ vs) : wipeE σ' vs = wipeE σ vs := by
  apply List.ext_getElem?
  intro i
  rw [wipeE_at, wipeE_at]
  by_cases hi : i ∈ vs
  · rw [if_pos hi, if_pos hi]
    have l := h.1
    have z : (wipeE σ vs).length = σ.length := by
      have wl : ∀ vs : List Nat, (wipeE σ vs).length = σ.length := by
        intro vs
        induction vs with
        | nil => rfl
        | cons v vs ih => show ((wipeE σ vs).set v .unk).length = _; rw [List.length_set, ih]
      exact wl vs
    rw [z] at l
    by_cases hl : i < σ.length
    · rw [List.getElem?_eq_getElem hl, List.getElem?_eq_getElem (by omega)]; rfl
    · rw [List.getElem?_eq_none (by omega), List.getElem?_eq_none (by omega)]
  · rw [if_neg hi, if_neg hi, h.2 i fun z => hi (hj i z), wipeE_at, if_neg hi]
theorem wipe_only {js vs : List Nat} {σ σ' : L2.St} (h : AtOnly js (wipe σ vs) σ') (hj : ∀ j ∈ js, j ∈ vs) : wipe σ' vs = wipe σ vs := by
  apply List.ext_getElem?
  intro i
  rw [wipe_at, wipe_at]
  by_cases hi : i ∈ vs
  · rw [if_pos hi, if_pos hi]
    have l := h.1
    rw [wipe_length] at l
    by_cases hl : i < σ.length
    · rw [List.getElem?_eq_getElem hl, List.getElem?_eq_getElem (by omega)]; rfl
    · rw [List.getElem?_eq_none (by omega), List.getElem?_eq_none (by omega)]
  · rw [if_neg hi, if_neg hi, h.2 i fun z => hi (hj i z), wipe_at, if_neg hi]
/-- the state within a comprehension: D the new list -/
def LcP (Γ : Cn) (es : List En) (vs : List Nat) (F : Fs) (acc : List D) (Dl : Addr) (σ : L2.St) : Hp → Prop := fun H => ∃ G, ST Γ (wipeE es vs) (F ++ [(Dl, .own acc)]) G H (wipe σ vs)
theorem ad_app {F R : Fs} : ad (F ++ R) = ad F ++ ad R := List.map_append
theorem ST.frameT (ht : EvT tt es F b F1) {Q : Bool → Hp → Prop} (st : ST Γ es (F ++ R) G H σ) (k : ∀ G2 H2, ST Γ es (F1 ++ R) G2 H2 σ → Q b H2) : tt σ H Q :=
  ht.2 G H σ ⟨st.s.f.left, st.s.se⟩ Q fun G2 H2 s2 g2 => by
    have e : ad (F1 ++ R) = ad (F ++ R) := by rw [ad_app, ad_app, ht.1]
    exact k G2 H2 (st.step ⟨SF.keep st.s.f g2 s2.f ht.1, s2.se⟩ (g2.wide fun x hx => by rw [ad_app]; exact List.mem_append_left _ hx) e)
theorem ST.frameX (ht : EvX te es F d F1) {Q : VK} (st : ST Γ es (F ++ R) G H σ) (k : ∀ v G2 H2, ST Γ es (F1 ++ R) G2 H2 σ → Rp G2 v d → Q v H2) : te σ H Q :=
  ht.2 G H σ ⟨st.s.f.left, st.s.se⟩ Q fun v G2 H2 s2 g2 r2 => by
    have e : ad (F1 ++ R) = ad (F ++ R) := by rw [ad_app, ad_app, ht.1]
    exact k v G2 H2 (st.step ⟨SF.keep st.s.f g2 s2.f ht.1, s2.se⟩ (g2.wide fun x hx => by rw [ad_app]; exact List.mem_append_left _ hx) e) r2
/-- one turn: from the item at its places -/
theorem lc_turn {vs : List Nat} {acc acc' : List D} {Dl : Addr} {σ σ2 : L2.St} {es2 : List En} {F3 : Fs} (st : ST Γ es2 (F ++ [(Dl, .own acc)]) G H σ2) (ew : wipe σ2 vs = wipe σ vs) (hw : wipeE es2 vs = wipeE es vs) (hl : acc.length < 100000)
    (ht : EvT tt es2 F b F1) (h1 : b = true → EvX te es2 F1 d F3 ∧ acc' = acc ++ [d]) (h2 : b = false → F3 = F1 ∧ acc' = acc) :
    tt σ2 H fun c H3 => if c = true then te σ2 H3 fun y H4 => ∃ ac, H4 Dl = some (.lst ac) ∧ ac.length < sizeLine ∧ LcP Γ es vs F3 acc' Dl σ (upd H4 Dl (.lst (ac ++ [y]))) else LcP Γ es vs F3 acc' Dl σ H3 := by
  have sw : ∀ G, SE G σ2 es2 → SE G (wipe σ vs) (wipeE es vs) := fun G s => by
    rw [← ew, ← hw]
    exact s.wipe vs
  refine ST.frameT ht st fun G3 H3 st3 => ?_
  cases b with
  | false =>
    obtain ⟨e, e2⟩ := h2 rfl
    subst e e2
    exact ⟨G3, ⟨st3.s.f, sw G3 st3.s.se⟩, st3.g, st3.fr, st3.kn⟩
  | true =>
    obtain ⟨hx, e2⟩ := h1 rfl
    subst e2
    refine ST.frameX hx st3 fun y G4 H4 st4 r4 => ?_
    obtain ⟨ga, xs, hx, rx⟩ := st4.s.f.sf (Dl, .own acc) (List.mem_append_right _ List.mem_cons_self)
    refine ⟨xs, hx, by rw [rx.len]; exact Evl.sz_lt hl, G4, ?_⟩
    have sf2 := st4.s.f.put (f' := .own (acc ++ [d])) (o := .lst (xs ++ [y])) ⟨_, upd_same, rx.app (.cons r4 .nil)⟩
    have st5 := st4.step ⟨sf2, st4.s.se⟩ (gro_put st4.s.gex ga mem_ad) ad_put
    exact ⟨⟨st5.s.f, sw G4 st5.s.se⟩, st5.g, st5.fr, st5.kn⟩
theorem lc_end {vs : List Nat} {acc : List D} {Dl : Addr} {F3 : Fs} {Kn : List (Addr × List V × List D)} (h : LcP ⟨ad F, G, H, Kn⟩ es vs F3 acc Dl σ H2) (s : SE G σ es) :
    ∃ xs G2, SS es F3 G2 H2 σ ∧ Gro (ad F) G H G2 H2 ∧ G2 Dl = none ∧ H2 Dl = some (.lst xs) ∧ RpA G2 xs acc := by
  obtain ⟨G2, st⟩ := h
  obtain ⟨ga, xs, hx, rx⟩ := st.s.f.sf (Dl, .own acc) (List.mem_append_right _ List.mem_cons_self)
  exact ⟨xs, G2, ⟨st.s.f.left, s.mono st.g.gg⟩, st.g, ga, hx, rx⟩
theorem lc_start {vs : List Nat} {Dl : Addr} {Kn : List (Addr × List V × List D)} (s : SS es F G H σ) (hD : H Dl = none) (hk : ∀ p ∈ Kn, G p.1 = some (.lst p.2.1) ∧ RpA G p.2.1 p.2.2) : LcP ⟨ad F, G, H, Kn⟩ es vs F [] Dl σ (upd H Dl (.lst [])) :=
  ⟨G, ⟨s.f.newOwn hD ⟨[], upd_same, .nil⟩, s.se.wipe vs⟩, gro_laid s.gex hD, fun a ha => by
    rw [ad_app] at ha
    rcases List.mem_append.mp ha with z | z
    · exact .inl z
    · have e : a = Dl := by simpa [ad] using z
      subst e
      exact .inr hD, hk⟩
/-- what a turn of a comprehension is to do: test, item -/
structure LcT (tt : TT) (te : TE) (es2 : List En) (F : Fs) (b : Bool) (d : D) (F' : Fs) : Prop where
  ex : ∃ Fm, EvT tt es2 F b Fm ∧ (b = true → EvX te es2 Fm d F') ∧ (b = false → F' = Fm)
theorem LcT.ad {es2 : List En} {F' : Fs} (h : LcT tt te es2 F b d F') : DL.ad F' = DL.ad F := by
  obtain ⟨Fm, h1, h2, h3⟩ := h.ex
  cases b with
  | true => exact (h2 rfl).1.trans h1.1
  | false => rw [h3 rfl]; exact h1.1
theorem LcT.yes {es2 : List En} {F' : Fs} (h : EvX te es2 F d F') : LcT tYes te es2 F true d F' := ⟨F, ⟨rfl, fun G H σ s Q k => k G H s (.refl s.gex)⟩, fun _ => h, fun z => by cases z⟩
theorem LcT.pure {es2 : List En} (h : EvT tt es2 F b F) (h2 : b = true → EvX te es2 F d F) : LcT tt te es2 F b d F := ⟨F, h, h2, fun _ => rfl⟩
theorem iF_ad {n : Nat} {iF : Nat → Fs} {es2 : Nat → List En} {bb : Nat → Bool} {dd : Nat → D} (h : ∀ i : Nat, i < n → LcT tt te (es2 i) (iF i) (bb i) (dd i) (iF (i + 1))) : ∀ i : Nat, i ≤ n → ad (iF i) = ad (iF 0) := by
  intro i
  induction i with
  | zero => intro _; rfl
  | succ i ih => exact fun hi => (h i (by omega)).ad.trans (ih (by omega))
theorem evn_lcR {wi : TI} {vs : List Nat} {lo : Int} {n : Nat} (iF : Nat → Fs) (bb : Nat → Bool) (dd : Nat → D) (es2 : Nat → List En) (hg : ∀ i : Nat, i < n → GoG g (.int (lo + (i : Int))) js (wipeE es vs) (es2 i)) (hj : ∀ j ∈ js, j ∈ vs) (hn : n ≤ 100000)
    (h : ∀ i : Nat, i < n → LcT tt te (es2 i) (iF i) (bb i) (dd i) (iF (i + 1))) (e0 : ad (iF 0) = ad F)
    (hwi : ∀ G H σ, SS es F G H σ → ∀ R : It → Hp → Prop, (∀ G2 H2, SS es (iF 0) G2 H2 σ → Gro (ad F) G H G2 H2 → R (Itr lo n) H2) → wi σ H R) : EvN (tLc wi g tt te vs) es F (lcD n bb dd) (iF n) := by
  have ea := iF_ad h
  refine ⟨(ea n (Nat.le_refl _)).trans e0, fun G H σ s Q k => hwi G H σ s _ fun G1 H1 s1 g1 => fun Dl hD => ?_⟩
  refine lc_range (lo := lo) (n := n) (fun i H' => LcP ⟨ad (iF 0), G1, H1, []⟩ es vs (iF i) (lcD i bb dd) Dl σ H') (lc_start s1 hD (fun p hp => (by cases hp))) (fun i H' hi ⟨G', st'⟩ => ?_) (fun H' p => ?_)
  · refine (hg i hi).2 _ _ _ G' H' _ _ st' (.int _) fun σ2 a2 st2 => ?_
    have ew := wipe_only a2 hj
    refine ⟨ew, ?_⟩
    obtain ⟨Fm, h1, h2, h3⟩ := (h i hi).ex
    exact lc_turn st2 ew (wipeE_only (hg i hi).1 hj) (Nat.lt_of_le_of_lt (lcD_len i bb dd) (by omega)) h1 (fun q => ⟨h2 q, lcD_yes q⟩) (fun q => ⟨h3 q, lcD_no q⟩)
  · obtain ⟨xs, G2, s2, g2, ga, hx, rx⟩ := lc_end p s1.se
    exact k Dl xs G2 H' s2 (g1.then e0 g2) (fresh0 s s1 g1 e0 hD) ga hx rx
theorem evn_lcR1 {vs : List Nat} {n : Int} (iF : Nat → Fs) (hA : EvA tas es F [.dat (.int n)] F1) (hn : n ≤ 100000) (bb : Nat → Bool) (dd : Nat → D) (es2 : Nat → List En) (hg : ∀ i : Nat, i < n.toNat → GoG g (.int (i : Int)) js (wipeE es vs) (es2 i)) (hj : ∀ j ∈ js, j ∈ vs)
    (h : ∀ i : Nat, i < n.toNat → LcT tt te (es2 i) (iF i) (bb i) (dd i) (iF (i + 1))) (e0 : F1 = iF 0 := by rfl) (hl : -1000000000 ≤ n := by omega) : EvN (tLc (iRng1 tas) g tt te vs) es F (lcD n.toNat bb dd) (iF n.toNat) := by
  subst e0
  exact evn_lcR (lo := 0) iF bb dd es2 (fun i hi => by rw [Int.zero_add]; exact hg i hi) hj (by omega) h hA.1 fun G H σ s R k => hA.2 G H σ s _ fun vs G1 H1 s1 g1 r1 => ⟨n, ao_int r1, by omega, by omega, k G1 H1 s1 g1⟩
theorem evn_lcR2 {vs : List Nat} {lo n : Int} (iF : Nat → Fs) (hA : EvA tas es F [.dat (.int lo), .dat (.int n)] F1) (hn : (n - lo).toNat ≤ 100000) (bb : Nat → Bool) (dd : Nat → D) (es2 : Nat → List En) (hg : ∀ i : Nat, i < (n - lo).toNat → GoG g (.int (lo + (i : Int))) js (wipeE es vs) (es2 i)) (hj : ∀ j ∈ js, j ∈ vs)
    (h : ∀ i : Nat, i < (n - lo).toNat → LcT tt te (es2 i) (iF i) (bb i) (dd i) (iF (i + 1))) (e0 : F1 = iF 0 := by rfl) (hl : -1000000000 ≤ n ∧ n ≤ 1000000000 := by omega) (hl2 : -1000000000 ≤ lo ∧ lo ≤ 1000000000 := by omega) : EvN (tLc (iRng2 tas) g tt te vs) es F (lcD (n - lo).toNat bb dd) (iF (n - lo).toNat) := by
  subst e0
  exact evn_lcR (lo := lo) iF bb dd es2 hg hj hn h hA.1 fun G H σ s R k => hA.2 G H σ s _ fun vs G1 H1 s1 g1 r1 => ⟨lo, n, ao_int2 r1, by omega, k G1 H1 s1 g1⟩
theorem evn_lcL {vs : List Nat} (iF : Nat → Fs) (hX : EvX tl es F (.lst ds) F1) (hn : ds.length ≤ 100000) (bb : Nat → Bool) (dd : Nat → D) (es2 : Nat → List En) (hg : ∀ i d, ds[i]? = some d → GoG g d js (wipeE es vs) (es2 i)) (hj : ∀ j ∈ js, j ∈ vs)
    (h : ∀ i : Nat, i < ds.length → LcT tt te (es2 i) (iF i) (bb i) (dd i) (iF (i + 1))) (e0 : F1 = iF 0 := by rfl) : EvN (tLc (iList K tl) g tt te vs) es F (lcD ds.length bb dd) (iF ds.length) := by
  subst e0
  have ea := iF_ad h
  refine ⟨(ea _ (Nat.le_refl _)).trans hX.1, fun G H σ s Q k => hX.2 G H σ s _ fun v G1 H1 s1 g1 r1 => ?_⟩
  obtain ⟨a, xs, rfl, h1, h2⟩ := rp_lst r1
  refine ⟨a, rfl, ⟨xs, .inl (.inl (s1.gex _ _ h1))⟩, fun Dl hD => ?_⟩
  refine lc_list (K := K) (a := a) (xs := xs) (fun i H' => LcP ⟨ad (iF 0), G1, H1, [(a, xs, ds)]⟩ es vs (iF i) (lcD i bb dd) Dl σ H') (lc_start s1 hD (fun p hp => by
    have e : p = (a, xs, ds) := by simpa using hp
    subst e
    exact ⟨h1, h2⟩)) (fun i H' _ ⟨G', st'⟩ => .inl (.inl (st'.s.gex _ _ (st'.kn _ List.mem_cons_self).1))) (fun i x H' hi ⟨G', st'⟩ => ?_) (fun H' p => ?_)
  · obtain ⟨d, hd1, hd2⟩ := (st'.kn _ List.mem_cons_self).2.getV hi
    refine (hg i d hd1).2 _ _ _ G' H' _ _ st' hd2 fun σ2 a2 st2 => ?_
    have hil : i < ds.length := (List.getElem?_eq_some_iff.mp hd1).1
    have ew := wipe_only a2 hj
    refine ⟨ew, ?_⟩
    obtain ⟨Fm, h1, h2, h3⟩ := (h i hil).ex
    exact lc_turn st2 ew (wipeE_only (hg i d hd1).1 hj) (Nat.lt_of_le_of_lt (lcD_len i bb dd) (by omega)) h1 (fun q => ⟨h2 q, lcD_yes q⟩) (fun q => ⟨h3 q, lcD_no q⟩)
  · obtain ⟨ys, G2, s2, g2, ga, hx, rx⟩ := lc_end p s1.se
    rw [h2.len] at s2 rx
    exact k Dl ys G2 H' s2 (g1.then hX.1 g2) (fresh0 s s1 g1 hX.1 hD) ga hx rx
/-- over a list told by xs: those of p, each by f -/
theorem lcD_filt {α : Type} (xs : List α) (p : α → Bool) (f : α → D) (z : Bool) (y : D) : lcD xs.length (fun i => (xs[i]?.map p).getD z) (fun i => (xs[i]?.map f).getD y) = (xs.filter p).map f := by
  have key : ∀ n, n ≤ xs.length → lcD n (fun i => (xs[i]?.map p).getD z) (fun i => (xs[i]?.map f).getD y) = ((xs.take n).filter p).map f := by
    intro n
    induction n with
    | zero => intro _; rfl
    | succ n ih =>
      intro hn
      have hl : n < xs.length := by omega
      have e : xs.take (n + 1) = xs.take n ++ [xs[n]] := by rw [List.take_succ_eq_append_getElem hl]
      rw [e, List.filter_append, List.map_append]
      cases q : p xs[n] with
      | true =>
        rw [lcD_yes (by rw [List.getElem?_eq_getElem hl]; exact q), ih (by omega)]
        simp [q, List.getElem?_eq_getElem hl]
      | false =>
        rw [lcD_no (by rw [List.getElem?_eq_getElem hl]; exact q), ih (by omega)]
        simp [q]
  rw [key _ (Nat.le_refl _), List.take_length]
theorem evn_filt {α : Type} {vs : List Nat} (xs : List α) (enc f : α → D) (p : α → Bool) (es2 : α → List En) (hX : EvX tl es F (.lst (xs.map enc)) F) (hn : xs.length ≤ 100000) (hg : ∀ x, GoG g (enc x) js (wipeE es vs) (es2 x)) (hj : ∀ j ∈ js, j ∈ vs)
    (ht : ∀ x, x ∈ xs → EvT tt (es2 x) F (p x) F) (he : ∀ x, x ∈ xs → p x = true → EvX te (es2 x) F (f x) F) : EvN (tLc (iList K tl) g tt te vs) es F ((xs.filter p).map f) F := by
  have h := evn_lcL (K := K) (g := g) (js := js) (tt := tt) (te := te) (vs := vs) (fun _ => F) hX (by rw [List.length_map]; exact hn) (fun i => (xs[i]?.map p).getD false) (fun i => (xs[i]?.map f).getD .non) (fun i => (xs[i]?.map es2).getD []) (fun i d hd => ?_) hj (fun i hi => ?_)
  · rw [List.length_map, lcD_filt] at h
    exact h
  · rw [List.getElem?_map] at hd
    obtain ⟨x, hx, e⟩ := Option.map_eq_some_iff.mp hd
    subst e
    rw [hx]
    exact hg x
  · rw [List.length_map] at hi
    have hx := List.getElem?_eq_getElem hi
    rw [hx]
    exact .pure (ht _ (List.getElem_mem hi)) (he _ (List.getElem_mem hi))
theorem evt_yes : EvT tYes es F true F := ⟨rfl, fun G H σ s Q k => k G H s (.refl s.gex)⟩
theorem evn_map {α : Type} {vs : List Nat} (xs : List α) (enc f : α → D) (es2 : α → List En) (hX : EvX tl es F (.lst (xs.map enc)) F) (hn : xs.length ≤ 100000) (hg : ∀ x, GoG g (enc x) js (wipeE es vs) (es2 x)) (hj : ∀ j ∈ js, j ∈ vs)
    (he : ∀ x, x ∈ xs → EvX te (es2 x) F (f x) F) : EvN (tLc (iList K tl) g tYes te vs) es F (xs.map f) F := by
  have h := evn_filt (K := K) xs enc f (fun _ => true) es2 hX hn hg hj (fun _ _ => evt_yes) (fun x hx _ => he x hx)
  rw [List.filter_eq_self.mpr (fun _ _ => rfl)] at h
  exact h
/-- over range(n) -/
theorem evn_filtR {vs : List Nat} {n : Int} (f : Int → D) (p : Int → Bool) (es2 : Int → List En) (hA : EvA tas es F [.dat (.int n)] F) (hn : n ≤ 100000) (hg : ∀ x, GoG g (.int x) js (wipeE es vs) (es2 x)) (hj : ∀ j ∈ js, j ∈ vs)
    (ht : ∀ x, 0 ≤ x → x < n → EvT tt (es2 x) F (p x) F) (he : ∀ x, 0 ≤ x → x < n → p x = true → EvX te (es2 x) F (f x) F) (hl : -1000000000 ≤ n := by omega) :
    EvN (tLc (iRng1 tas) g tt te vs) es F ((((List.range n.toNat).map fun i : Nat => (i : Int)).filter p).map f) F := by
  have h := evn_lcR1 (n := n) (g := g) (js := js) (tt := tt) (te := te) (vs := vs) (fun _ => F) hA hn (fun i => p (i : Int)) (fun i => f (i : Int)) (fun i => es2 (i : Int)) (fun i _ => hg i) hj (fun i hi => .pure (ht i (by omega) (by omega)) (he i (by omega) (by omega)))
  have e : lcD n.toNat (fun i => p (i : Int)) (fun i => f (i : Int)) = (((List.range n.toNat).map fun i : Nat => (i : Int)).filter p).map f := by
    unfold lcD
    generalize List.range n.toNat = l
    induction l with
    | nil => rfl
    | cons a l ih =>
      rw [List.filterMap_cons, List.map_cons, List.filter_cons]
      dsimp only at ih ⊢
      rw [ih]
      by_cases q : p (a : Int) = true
      · rw [if_pos q, if_pos q, List.map_cons]
      · rw [if_neg q, if_neg q]
  rw [e] at h
  exact h
theorem evn_mapR {vs : List Nat} {n : Int} (f : Int → D) (es2 : Int → List En) (hA : EvA tas es F [.dat (.int n)] F) (hn : n ≤ 100000) (hg : ∀ x, GoG g (.int x) js (wipeE es vs) (es2 x)) (hj : ∀ j ∈ js, j ∈ vs)
    (he : ∀ x, 0 ≤ x → x < n → EvX te (es2 x) F (f x) F) (hl : -1000000000 ≤ n := by omega) : EvN (tLc (iRng1 tas) g tYes te vs) es F (((List.range n.toNat).map fun i : Nat => (i : Int)).map f) F := by
  have h := evn_filtR f (fun _ => true) es2 hA hn hg hj (fun _ _ _ => evt_yes) (fun x h0 h1 _ => he x h0 h1)
  rw [List.filter_eq_self.mpr (fun _ _ => rfl)] at h
  exact h
end
end DL
set_option Elab.async false
set_option linter.all false
set_option maxRecDepth 100000
set_option maxHeartbeats 4000000
namespace DL
open PySem L2 PyProof.Rows
open Evl (Ex)

/-! ### defs by their instances -/
section
variable (P : Program) (w : World) (K : PySem.W.Frag) (mg : Str → Option Value) (base : Heap) (CX : CXT) (k : Nat)
/-- a def of the module, by its name -/
structure Cal (x : Str) (sp : Sp) : Prop where
  ex : ∃ (f : Addr) (fd : FuncData) (ps : List Str), FnOk P w K mg base CX k f fd ps sp ∧ mg x = some (.ref f) ∧ PySem.W.keepIn K (.ref f) = true ∧ Binds K fd ps []
/-- a method of the class at C -/
structure Met (C : Addr) (m : Str) (sp : Sp) : Prop where
  ex : ∃ (f : Addr) (fd : FuncData) (ps : List Str), Cls K C ∧ Meth K C m f ∧ FnOk P w K mg base CX k f fd ps sp ∧ Binds K fd ps []
/-- a class, made by its __init__ -/
structure Mak (x : Str) (C : Addr) (sp : Sp) : Prop where
  ex : ∃ (f : Addr) (fd : FuncData) (ps : List Str), Mk K C f ∧ FnOk P w K mg base CX k f fd ps sp ∧ mg x = some (.ref C) ∧ Binds K fd ps []
end
section
variable {X : Cx} {k j : Nat} {C : Addr} {x m : Str} {sp : Sp} {p pos apos : Pos} {e o : Expr} {es : List Expr} {ta : TE} {t : TA}
theorem pe_c (c : Cal X.prog X.w X.K X.mg X.base CX0 k x sp) (hr : Room j X.A) (hk : k ≤ j) (hg : Gl X x) (ha : PA X (e :: es) t)
    (hdb : (x == ("__debug__" : Str)) = false := by decide) (he : starEach (e :: es) X.env = (false, eval e X.env) :: starEach es X.env := by rfl) (hpl : (backTo pos (starEach es X.env)).any (·.1) = false := by rfl) :
    PE X (.Call (.Name x p) (e :: es) [] pos) (tCall sp [] E0 t) := by
  obtain ⟨f, fd, ps, F, hm, kp, b⟩ := c.ex
  exact pe_call F (hr.mono hk) hg hm kp b .nil pass0 ha hdb he hpl
theorem pe_mk (c : Mak X.prog X.w X.K X.mg X.base CX0 k x C sp) (hr : Room j X.A) (hk : k + 1 ≤ j) (hg : Gl X x) (ha : PA X (e :: es) t)
    (hdb : (x == ("__debug__" : Str)) = false := by decide) (he : starEach (e :: es) X.env = (false, eval e X.env) :: starEach es X.env := by rfl) (hpl : (backTo pos (starEach es X.env)).any (·.1) = false := by rfl) :
    PE X (.Call (.Name x p) (e :: es) [] pos) (tMake C sp [] E0 t) := by
  obtain ⟨f, fd, ps, M, F, hm, b⟩ := c.ex
  exact pe_make M F (hr.mono hk) hg hm b .nil pass0 ha hdb he hpl
theorem pe_mt {pl : Sem Bool} (c : Met X.prog X.w X.K X.mg X.base CX0 k C m sp) (hr : Room j X.A) (hk : k ≤ j) (he : PE X o ta) (ha : PA X (e :: es) t)
    (hst : starEach (e :: es) X.env = (false, eval e X.env) :: starEach es X.env := by rfl) (hpl : (backTo pos (starEach es X.env)).any (·.1) = false := by rfl)
    (ht : eval (.Call (.Attribute o m apos) (e :: es) [] pos) X.env = (do
      let ov ← eval o X.env
      standAt apos.atName
      let (f, first) ← holding [ov] (getMethod ov m pl)
      callWith pos f first (backTo pos (starEach (e :: es) X.env)) (backToKw pos (keywordEach [] X.env))) := by rfl) :
    PE X (.Call (.Attribute o m apos) (e :: es) [] pos) (tMeth C m sp [] E0 ta t) := by
  obtain ⟨f, fd, ps, hc, hm, F, b⟩ := c.ex
  exact pe_meth (pl := pl) he hc hm F (hr.mono hk) b .nil pass0 ha hst hpl ht
theorem pe_mt0 {pl : Sem Bool} (c : Met X.prog X.w X.K X.mg X.base CX0 k C m sp) (hr : Room j X.A) (hk : k ≤ j) (he : PE X o ta)
    (ht : eval (.Call (.Attribute o m apos) [] [] pos) X.env = (do
      let ov ← eval o X.env
      standAt apos.atName
      let (f, first) ← holding [ov] (getMethod ov m pl)
      callWith pos f first (backTo pos (starEach [] X.env)) (backToKw pos (keywordEach [] X.env))) := by rfl) :
    PE X (.Call (.Attribute o m apos) [] [] pos) (tMeth C m sp [] E0 ta tNil) := by
  obtain ⟨f, fd, ps, hc, hm, F, b⟩ := c.ex
  exact pe_meth0 (pl := pl) he hc hm F (hr.mono hk) b .nil pass0 ht
end
section
variable {P : Program} {w : World} {K : PySem.W.Frag} {mg : Str → Option Value} {base : Heap}
theorem scope_le {N ps : List Str} {sc : Scope} (S : FnScope N ps sc) : ps.length ≤ N.length := by
  have := congrArg List.length S.pre
  rw [List.length_take] at this
  omega
abbrev BodyI (P : Program) (w : World) (K : PySem.W.Frag) (mg : Str → Option Value) (base : Heap) (N : List Str) (qual : Str) (st : Stmt) (f : Addr) (k : Nat) (I : Inst) : Prop :=
  ∀ (cdv : Value) (A : Around) (outer : List Env) (s : Shared) (H : Hp) (E : XK), Room k (A.deeper (envOfC qual (defScope st) s.heap.objs.size f cdv)) →
      ∃ t, PSs (cxOf CX0 P w K mg base N qual (defScope st) f cdv A outer s H E).nox (defBody st) t ∧ ∀ as F r F' (Γ : Cn) (Dn : Ends), I as F r F' → Γ.S = ad F → Dn.nx = (fun _ H' => Dn.rt .non H') → Ret Γ F' r Dn.rt → Go Γ (as ++ List.replicate (N.length - as.length) .unk) F (t Dn)
theorem fnI {x qual : Str} {st : Stmt} {f : Addr} {fd : FuncData} {N ps : List Str} {k : Nat} {I : Inst} (F : FunD K x qual (defArgs st) (defBody st) (defScope st) [] [] f fd) (S : FnScope N ps (defScope st))
    (hI : ∀ as F r F', I as F r F' → as.length = ps.length) (body : BodyI P w K mg base N qual st f k I) : FnOk P w K mg base CX0 (k + 1) f fd ps (spD I) := by
  refine F.ok S (spD_len hI) fun cdv A outer s H vs Q E hr h => ?_
  obtain ⟨t, ht, hg⟩ := body cdv A outer s H E hr
  exact ⟨t, PSs.nox ht, enter h (fun as F r F' hi => by rw [hI as F r F' hi]; exact scope_le S) fun as F r F' Γ hi hs Dn hn hr => hg as F r F' Γ Dn hi hs hn hr⟩
theorem calI {x : Str} {st : Stmt} {f : Addr} {fd : FuncData} {N ps : List Str} {k : Nat} {I : Inst} (F : FunD K x x (defArgs st) (defBody st) (defScope st) [] [] f fd) (gm : mg x = some (.ref f)) (S : FnScope N ps (defScope st)) (b : Binds K fd ps [])
    (hI : ∀ as F r F', I as F r F' → as.length = ps.length) (body : BodyI P w K mg base N x st f k I) : Cal P w K mg base CX0 (k + 1) x (spD I) := ⟨f, fd, ps, fnI F S hI body, gm, F.kp, b⟩
theorem metI {m qual : Str} {C : Addr} {st : Stmt} {f : Addr} {fd : FuncData} {N ps : List Str} {k : Nat} {I : Inst} (c : Cls K C) (me : Meth K C m f) (F : FunD K m qual (defArgs st) (defBody st) (defScope st) [] [] f fd) (S : FnScope N ps (defScope st)) (b : Binds K fd ps [])
    (hI : ∀ as F r F', I as F r F' → as.length = ps.length) (body : BodyI P w K mg base N qual st f k I) : Met P w K mg base CX0 (k + 1) C m (spD I) := ⟨f, fd, ps, c, me, fnI F S hI body, b⟩
end
theorem pe_globI {X : Cx} {x : Str} {i : Int} {pos : Pos} (hg : Gl X x) (hm : ∃ t, X.mg x = some (.int i t)) (hdb : (x == ("__debug__" : Str)) = false := by decide) : PE X (.Name x pos) (tC (.int i)) := by
  obtain ⟨t, h⟩ := hm
  exact pe_glob hg h ⟨_, rfl⟩ hdb

/-! ### the dice -/
/-- the k-th number, cut to what is below m; 0 behind the end -/
@[irreducible] def nxt (ns : List Int) (k : Nat) (m : Int) : Int := if k < ns.length then (ns.getD k 0).fmod m else 0
theorem nxt_range {ns : List Int} {k : Nat} {m : Int} (h : 0 < m) : 0 ≤ nxt ns k m ∧ nxt ns k m < m := by
  unfold nxt
  split
  · exact ⟨Int.fmod_nonneg_of_pos _ h, Int.fmod_lt_of_pos _ h⟩
  · omega
/-- _law_next(dice, m): hands back the next number; the dice is one further -/
def spNext (K : PySem.W.Frag) : Sp := fun vs H Q _ => ∃ (d sa : Addr) (ns : List Int) (k : Nat) (m : Int), vs = [.ref d, .int m] ∧ H d = some (.lst [.ref sa, .int (k : Int)]) ∧ SqL K H sa (ns.map V.int) ∧ k ≤ 100000 ∧ ns.length ≤ 63 ∧ 0 < m ∧ Q (.int (nxt ns k m)) (upd H d (.lst [.ref sa, .int ((k + 1 : Nat) : Int)]))
theorem scr_put {K : PySem.W.Frag} {H : Hp} {d sa : Addr} {k : Nat} {ns : List Int} {o : HO} (hd : H d = some (.lst [.ref sa, .int (k : Int)])) (h : SqL K H sa (ns.map V.int)) : SqL K (upd H d o) sa (ns.map V.int) := by
  have ne : ∀ u, H sa = some u → (u = .lst (ns.map V.int) ∨ ∃ ob, u = .frz ob (.lst (ns.map V.int))) → sa ≠ d := fun u hu hc e => by
    rw [e, hd] at hu
    cases hu
    rcases hc with z | ⟨ob, z⟩
    · injection z with z
      cases ns with
      | nil => cases z
      | cons n ns => rw [List.map_cons] at z; injection z with z1 _; cases z1
    · cases z
  rcases h with (z | ⟨ob, z⟩) | z
  · exact .inl (.inl (by rw [upd_ne (ne _ z (.inl rfl))]; exact z))
  · exact .inl (.inr ⟨ob, by rw [upd_ne (ne _ z (.inr ⟨ob, rfl⟩))]; exact z⟩)
  · exact .inr z
section
variable {Γ : Cn} {es : List En} {F F1 R : Fs} {G H : Hp} {σ : L2.St} {tas : TA} {d sa : Addr} {k : Nat} {m : Int} {ns : List Int} {K : PySem.W.Frag} {E : XK}
/-- a call of _law_next -/
theorem evx_next (hl : ns.length ≤ 63) (ha : EvA tas es F [.val (.ref d), .dat (.int m)] ((d, .dice K sa ns k) :: R)) (hk : k ≤ 100000) (hm : 0 < m) :
    EvX (tCall (spNext K) [] E tas) es F (.int (nxt ns k m)) ((d, .dice K sa ns (k + 1)) :: R) := ⟨by
    rw [← ha.1]; rfl, fun G H σ s Q kk => ha.2 G H σ s _ fun vs G1 H1 s1 g1 r1 => by
    rw [List.append_nil]
    cases r1 with
    | val r1 =>
      cases r1 with
      | dat r2 r3 =>
        cases r3
        rw [rp_int r2]
        obtain ⟨gd, hx, hq⟩ := s1.f.sf (d, .dice K sa ns k) List.mem_cons_self
        refine ⟨d, sa, ns, k, m, rfl, hx, Evl.ex_l s1.gex hq, hk, hl, hm, ?_⟩
        have sf2 := SF.put (F := []) (R := R) (f := .dice K sa ns k) (f' := .dice K sa ns (k + 1)) (o := .lst [.ref sa, .int ((k + 1 : Nat) : Int)]) s1.f ⟨upd_same, hq⟩
        exact kk _ G1 _ ⟨sf2, s1.se⟩ (g1.then ha.1 (gro_put s1.gex gd List.mem_cons_self)) (.int _)⟩
end
end DL
namespace DL
theorem iteT' {c : Bool} {A B : Prop} (hc : c = true) (h : A) : if c = true then A else B := by rw [if_pos hc]; exact h
theorem iteF' {c : Bool} {A B : Prop} (hc : c = false) (h : B) : if c = true then A else B := by rw [hc, if_neg Bool.false_ne_true]; exact h
end DL
namespace DL
open PySem L2
theorem evx_un {es : List En} {F F1 : Fs} {ta : TE} {n : Int} {f : Int → Int} (h : EvX ta es F (.int n) F1) : EvX (tUn (rU fun i => .int (f i)) ta) es F (.int (f n)) F1 := ⟨h.1, fun G H σ s Q k => h.2 G H σ s _ fun v G2 H2 s2 g r => ⟨n, rp_int r, k _ G2 H2 s2 g (.int _)⟩⟩
end DL
set_option Elab.async false
set_option linter.all false
set_option maxRecDepth 100000
set_option maxHeartbeats 4000000
/-! the hand layer's rules with the written part named -/
namespace DL
open PySem L2 PyProof.Rows
abbrev rLenK (K : PySem.W.Frag) : List V → Hp → VK → Prop := fun xs H Q => ∃ p ys, xs = [V.ref p] ∧ (SqL K H p ys ∨ SqT K H p ys) ∧ Q (.int ys.length) H
abbrev rListK (K : PySem.W.Frag) : List V → Hp → VK → Prop := fun xs H Q => ∃ p ys, xs = [V.ref p] ∧ (SqL K H p ys ∨ SqT K H p ys) ∧ ∀ l, H l = none → Q (.ref l) (upd H l (.lst ys))
abbrev rTupleK (K : PySem.W.Frag) : List V → Hp → VK → Prop := fun xs H Q => ∃ p ys, xs = [V.ref p] ∧ ((SqL K H p ys ∧ ∀ l, H l = none → Q (.ref l) (upd H l (.tup ys))) ∨ (SqT K H p ys ∧ Q (.ref p) H))
section
variable {X : Cx} {K : PySem.W.Frag}
theorem k_ixL (h : X.K = K) : IxR X (rIxL K) := by subst h; exact ix_list
theorem k_ixT (h : X.K = K) : IxR X (rIxT K) := by subst h; exact ix_tup
theorem k_slL (h : X.K = K) : SlR X (rSlL K) := by subst h; exact sl_list
theorem k_slT (h : X.K = K) : SlR X (rSlT K) := by subst h; exact sl_tup
theorem k_in (h : X.K = K) : OpR X (compareOp .In) (rIn K false) := by subst h; exact op_in_seq
theorem k_notIn (h : X.K = K) : OpR X (compareOp .NotIn) (rIn K true) := by subst h; exact op_notIn_seq
theorem k_eqD (h : X.K = K) (hu : X.A.units + 64 < cLine) : OpR X (compareOp .Eq) (rEqD K) := by subst h; exact op_eqD hu
theorem k_neD (h : X.K = K) (hu : X.A.units + 64 < cLine) : OpR X (compareOp .NotEq) (rNeD K) := by subst h; exact op_neD hu
theorem k_catT (h : X.K = K) : OpR X (binaryOp .Add) (rCatT K) := by subst h; exact op_catT
theorem k_len (h : X.K = K) : CallR X (.builtin "len") (rLenK K) := by subst h; exact call_len_seq
theorem k_list (h : X.K = K) : CallR X (.type "list") (rListK K) := by subst h; exact call_list_of
theorem k_tuple (h : X.K = K) : CallR X (.type "tuple") (rTupleK K) := by subst h; exact call_tuple_of
theorem k_isi (h : X.K = K) : CallR X (.builtin "isinstance") (rIsi K) := by subst h; exact call_isi
theorem k_minL (h : X.K = K) (hc : X.calm = true) : CallR X (.builtin "min") (rMin K) := by subst h; exact cr_min hc
theorem k_index (h : X.K = K) : MtR X "list.index" (rIndex K) := by subst h; exact mt_index
theorem k_fld (h : X.K = K) {e : Expr} {ta : TE} {f : Str} {pos : Pos} (he : PE X e ta) (hb : attributeBase e f X.env (eval e X.env) = eval e X.env := by rfl) : PE X (.Attribute e f pos) (tFld K ta f) := by subst h; exact pe_fld he hb
theorem k_pl (h : X.K = K) {tg l : Expr} {tl : TE} (hl : PE X l tl) : PI X tg l (iList K tl) := by subst h; exact pi_list hl
theorem k_pt (h : X.K = K) {tg l : Expr} {tl : TE} (hl : PE X l tl) : PI X tg l (iTup K tl) := by subst h; exact pi_tup hl
theorem k_pgt (h : X.K = K) {es : List Expr} {k : Nat} {t : TGs} {n : Nat} {pos : Pos} (hc : X.calm = true) (ht : PGs X es t)
    (hn : (assignEach es X.env).length = n := by rfl) (hst : (assignEach es X.env).findIdx? (·.1) = none := by rfl) : PG X (.Tuple es k pos) (gTup K n t) := by subst h; exact pg_tup hc ht hn hst
theorem k_bm (hK : X.K = K) {o e : Expr} {es : List Expr} {to : TE} {t : TA} {name : Str} {apos cpos : Pos} {T id : String} {r : V → List V → Hp → VK → Prop} (pa : PlainAttrs T) (slot : Slot T name id) (hty : typeOf (.builtin id) = pure (.type "method_descriptor")) (hm : MtR X id r) (ho : PE X o to) (ha : PA X (e :: es) t)
    (hbase : attributeBase o name X.env (eval o X.env) = eval o X.env := by rfl)
    (hfew : ((backTo cpos (starEach (e :: es) X.env)).all (fun x => !x.1) && (backToKw cpos (keywordEach [] X.env)).all (fun x => x.1.isSome)
      && decide ((e :: es).length + ([] : List Keyword).length + (if ([] : List Keyword).isEmpty then 0 else 1) < 30)) = true := by rfl)
    (hline : (apos.endLine == cpos.line) = true := by rfl) (hs : starEach (e :: es) X.env = (false, eval e X.env) :: starEach es X.env := by rfl) (hplain : (backTo cpos (starEach es X.env)).any (·.1) = false := by rfl) :
    PE X (.Call (.Attribute o name apos) (e :: es) [] cpos) (tBM K T r to t) := by subst hK; exact pe_bm pa slot hty hm ho ha hbase hfew hline hs hplain
theorem k_sfld (h : X.K = K) {o value : Expr} {f : Str} {pos pos' : Pos} {ta tv : TE} (ha : PE X o ta) (hv : PE X value tv) (hs : swapsWith value (some (.Attribute o f pos')) pos.line X.env = pure false := by rfl) : PS X (.Assign [.Attribute o f pos'] value pos) (sFld K ta tv f) := by subst h; exact ps_fld ha hv hs
end
end DL
set_option Elab.async false
set_option linter.all false
set_option maxRecDepth 100000
set_option maxHeartbeats 4000000
/-! what the laws' drawing defs compute, and their instances -/
namespace W
open PySem L2 DL
abbrev T4 := Int × Int × Int × Int
abbrev e4 (t : T4) : D := .tup [.int t.1, .int t.2.1, .int t.2.2.1, .int t.2.2.2]
abbrev T3 := Int × Int × Int
abbrev e3 (t : T3) : D := .tup [.int t.1, .int t.2.1, .int t.2.2]
structure WebD where
  many : Int
  last : Int
  ties : List T4
  falls : List T4
abbrev eW (w : WebD) : D := .tup [.int w.many, .int w.last, .lst (w.ties.map e4), .lst (w.falls.map e4)]

@[irreducible] def named (m many turn : Int) : Int := if m = 0 then 0 else 1 + (m - 1 + turn).fmod (many - 1)
inductive I__law_named (K : PySem.W.Frag) : Inst
  | mk (m many turn : Int) (h : 1 < many) : I__law_named K [.dat (.int m), .dat (.int many), .dat (.int turn)] [] (.int (named m many turn)) []

/-! ### falls -/
@[irreducible] def fcount (ns : List Int) (k : Nat) (many wide : Int) : Int × Nat :=
  if wide = 8 then (if nxt ns (k + 1) 4 = 3 then (nxt ns (k + 2) many, k + 3) else (nxt ns k (min 3 (many - 1) + 1), k + 2)) else (nxt ns k (min 3 (many - 1) + 1), k + 1)
/-- least, most of a fall -/
@[irreducible] def fspan (ns : List Int) (k : Nat) (wide : Int) : (Int × Int) × Nat :=
  if wide = 8 then (if nxt ns (k + 2) 8 = 7 then ((1 + nxt ns (k + 3) 60, 1 + nxt ns (k + 3) 60 + nxt ns (k + 4) (61 - (1 + nxt ns (k + 3) 60))), k + 5) else ((1 + nxt ns k wide, 1 + nxt ns k wide + nxt ns (k + 1) wide), k + 3))
  else ((1 + nxt ns k wide, 1 + nxt ns k wide + nxt ns (k + 1) wide), k + 2)
@[irreducible] def fall1 (ns : List Int) (k : Nat) (many wide count : Int) (i : Nat) : T4 × Nat :=
  ((nxt ns (fspan ns k wide).2 (many - count), many - 1 - (i : Int), (fspan ns k wide).1.1, (fspan ns k wide).1.2), (fspan ns k wide).2 + 1)
def fallsAt' (ns : List Int) (k : Nat) (many wide count : Int) : Nat → List T4 × Nat
  | 0 => ([], k)
  | i + 1 => ((fallsAt' ns k many wide count i).1 ++ [(fall1 ns (fallsAt' ns k many wide count i).2 many wide count i).1], (fall1 ns (fallsAt' ns k many wide count i).2 many wide count i).2)
@[irreducible] def fallsAt (ns : List Int) (k : Nat) (many wide count : Int) (i : Nat) : List T4 × Nat := fallsAt' ns k many wide count i
theorem fallsAt_0 {ns : List Int} {k : Nat} {many wide count : Int} : fallsAt ns k many wide count 0 = ([], k) := by delta fallsAt; exact rfl
theorem fallsAt_s {ns : List Int} {k : Nat} {many wide count : Int} {i : Nat} : fallsAt ns k many wide count (i + 1) = ((fallsAt ns k many wide count i).1 ++ [(fall1 ns (fallsAt ns k many wide count i).2 many wide count i).1], (fall1 ns (fallsAt ns k many wide count i).2 many wide count i).2) := by delta fallsAt; exact rfl
theorem fall1_eq {ns : List Int} {k : Nat} {many wide count : Int} {i : Nat} : fall1 ns k many wide count i = ((nxt ns (fspan ns k wide).2 (many - count), many - 1 - (i : Int), (fspan ns k wide).1.1, (fspan ns k wide).1.2), (fspan ns k wide).2 + 1) := by delta fall1; exact rfl
@[irreducible] def falls (ns : List Int) (k : Nat) (many wide : Int) : List T4 × Nat := fallsAt ns (fcount ns k many wide).2 many wide (fcount ns k many wide).1 (fcount ns k many wide).1.toNat
theorem falls_eq {ns : List Int} {k : Nat} {many wide : Int} : falls ns k many wide = fallsAt ns (fcount ns k many wide).2 many wide (fcount ns k many wide).1 (fcount ns k many wide).1.toNat := by delta falls; exact rfl
theorem fcount_range {ns : List Int} {k : Nat} {many wide : Int} (hm : 2 ≤ many) : 0 ≤ (fcount ns k many wide).1 ∧ (fcount ns k many wide).1 < many := by
  have h1 := nxt_range (ns := ns) (k := k) (m := min 3 (many - 1) + 1) (by omega)
  have h2 := nxt_range (ns := ns) (k := k + 2) (m := many) (by omega)
  unfold fcount
  split
  · split <;> (dsimp only; omega)
  · dsimp only; omega
theorem fcount_k {ns : List Int} {k : Nat} {many wide : Int} : k ≤ (fcount ns k many wide).2 ∧ (fcount ns k many wide).2 ≤ k + 3 := by
  unfold fcount
  split
  · split <;> (dsimp only; omega)
  · dsimp only; omega
theorem fspan_k {ns : List Int} {k : Nat} {wide : Int} : k ≤ (fspan ns k wide).2 ∧ (fspan ns k wide).2 ≤ k + 5 := by
  unfold fspan
  split
  · split <;> (dsimp only; omega)
  · dsimp only; omega
theorem fspan_range {ns : List Int} {k : Nat} {wide : Int} (hw : 1 ≤ wide) (hw2 : wide ≤ 8) : 1 ≤ (fspan ns k wide).1.1 ∧ (fspan ns k wide).1.1 ≤ (fspan ns k wide).1.2 ∧ (fspan ns k wide).1.2 ≤ 60 := by
  have h1 := nxt_range (ns := ns) (k := k) (m := wide) (by omega)
  have h2 := nxt_range (ns := ns) (k := k + 1) (m := wide) (by omega)
  have h3 := nxt_range (ns := ns) (k := k + 3) (m := 60) (by omega)
  have h4 := nxt_range (ns := ns) (k := k + 4) (m := 61 - (1 + nxt ns (k + 3) 60)) (by omega)
  unfold fspan
  split
  · split <;> (dsimp only; omega)
  · dsimp only; omega
theorem fallsAt_k {ns : List Int} {k : Nat} {many wide count : Int} : ∀ i : Nat, k ≤ (fallsAt ns k many wide count i).2 ∧ (fallsAt ns k many wide count i).2 ≤ k + 6 * i
  | 0 => by rw [fallsAt_0]; exact ⟨Nat.le_refl _, Nat.le_refl _⟩
  | i + 1 => by
    have h := fallsAt_k (ns := ns) (k := k) (many := many) (wide := wide) (count := count) i
    have h2 := fspan_k (ns := ns) (k := (fallsAt ns k many wide count i).2) (wide := wide)
    rw [fallsAt_s, fall1_eq]
    dsimp only
    omega
theorem fallsAt_len {ns : List Int} {k : Nat} {many wide count : Int} : ∀ i : Nat, (fallsAt ns k many wide count i).1.length = i
  | 0 => by rw [fallsAt_0]; rfl
  | i + 1 => by
    rw [fallsAt_s]
    dsimp only
    rw [List.length_append, fallsAt_len i]; rfl
theorem falls_k {ns : List Int} {k : Nat} {many wide : Int} (hm : 2 ≤ many) (hm2 : many ≤ 8) : k ≤ (falls ns k many wide).2 ∧ (falls ns k many wide).2 ≤ k + 60 := by
  have h := fcount_range (ns := ns) (k := k) (many := many) (wide := wide) hm
  have h2 := fcount_k (ns := ns) (k := k) (many := many) (wide := wide)
  have h3 := fallsAt_k (ns := ns) (k := (fcount ns k many wide).2) (many := many) (wide := wide) (count := (fcount ns k many wide).1) (fcount ns k many wide).1.toNat
  unfold falls
  omega
theorem falls_len {ns : List Int} {k : Nat} {many wide : Int} (hm : 2 ≤ many) (hm2 : many ≤ 8) : (falls ns k many wide).1.length ≤ 7 := by
  have h := fcount_range (ns := ns) (k := k) (many := many) (wide := wide) hm
  unfold falls
  rw [fallsAt_len]
  omega
inductive I__law_falls (K : PySem.W.Frag) : Inst
  | mk (d sa : Addr) (ns : List Int) (k : Nat) (many wide : Int) (hl : ns.length ≤ 63) (hk : k ≤ 50000) (h1 : 2 ≤ many) (h2 : many ≤ 8) (h3 : 1 ≤ wide) (h4 : wide ≤ 8) :
    I__law_falls K [.val (.ref d), .dat (.int many), .dat (.int wide)] [(d, .dice K sa ns k)] (.lst ((falls ns k many wide).1.map e4)) [(d, .dice K sa ns (falls ns k many wide).2)]

/-! ### ties -/
/-- the drawn times behind 0 -/
@[irreducible] def timesAt (ns : List Int) (k : Nat) (last : Int) (n : Nat) : List Int := (List.range n).map fun i => nxt ns (k + i) (last + 1)
@[irreducible] def tcount (ns : List Int) (k : Nat) (wide : Int) : Int × Nat :=
  if wide = 8 then (if nxt ns (k + 1) 5 = 4 then (nxt ns (k + 2) 13, k + 3) else (nxt ns k 6, k + 2)) else (nxt ns k 6, k + 1)
def tone (ns : List Int) (k : Nat) (many : Int) : Int := nxt ns k many
@[irreducible] def tother (ns : List Int) (k : Nat) (many : Int) : Int := (nxt ns k many + 1 + nxt ns (k + 1) (many - 1)).fmod many
@[irreducible] def tnear (ns : List Int) (k : Nat) (many last : Int) (times : List Int) : Int × Nat :=
  if nxt ns (k + 2) 4 = 3 then (nxt ns (k + 3) (2 * last + 1) - last, k + 4) else (times.getD (tother ns k many).toNat 0 - times.getD (nxt ns k many).toNat 0, k + 3)
@[irreducible] def tie1 (ns : List Int) (k : Nat) (many last wide : Int) (times : List Int) : T4 × Nat :=
  ((nxt ns k many, tother ns k many, max (-60) ((tnear ns k many last times).1 - nxt ns (tnear ns k many last times).2 (wide + 1)),
    min 60 (max (max (-60) ((tnear ns k many last times).1 - nxt ns (tnear ns k many last times).2 (wide + 1))) ((tnear ns k many last times).1 + nxt ns ((tnear ns k many last times).2 + 1) (wide + 1)))), (tnear ns k many last times).2 + 2)
theorem tie1_eq {ns : List Int} {k : Nat} {many last wide : Int} {times : List Int} : tie1 ns k many last wide times = ((nxt ns k many, tother ns k many, max (-60) ((tnear ns k many last times).1 - nxt ns (tnear ns k many last times).2 (wide + 1)),
    min 60 (max (max (-60) ((tnear ns k many last times).1 - nxt ns (tnear ns k many last times).2 (wide + 1))) ((tnear ns k many last times).1 + nxt ns ((tnear ns k many last times).2 + 1) (wide + 1)))), (tnear ns k many last times).2 + 2) := by delta tie1; exact rfl
theorem tother_eq {ns : List Int} {k : Nat} {many : Int} : tother ns k many = (nxt ns k many + 1 + nxt ns (k + 1) (many - 1)).fmod many := by delta tother; exact rfl
theorem tother_range {ns : List Int} {k : Nat} {many : Int} (h : 0 < many) : 0 ≤ tother ns k many ∧ tother ns k many < many := by rw [tother_eq]; exact ⟨Int.fmod_nonneg_of_pos _ h, Int.fmod_lt_of_pos _ h⟩
theorem tnear_k {ns : List Int} {k : Nat} {many last : Int} {times : List Int} : k ≤ (tnear ns k many last times).2 ∧ (tnear ns k many last times).2 ≤ k + 4 := by
  unfold tnear
  split <;> (dsimp only; omega)
def tiesAt' (ns : List Int) (k : Nat) (many last wide : Int) (times : List Int) : Nat → List T4 × Nat
  | 0 => ([], k)
  | i + 1 => ((tiesAt' ns k many last wide times i).1 ++ [(tie1 ns (tiesAt' ns k many last wide times i).2 many last wide times).1], (tie1 ns (tiesAt' ns k many last wide times i).2 many last wide times).2)
@[irreducible] def tiesAt (ns : List Int) (k : Nat) (many last wide : Int) (times : List Int) (i : Nat) : List T4 × Nat := tiesAt' ns k many last wide times i
theorem tiesAt_0 {ns : List Int} {k : Nat} {many last wide : Int} {times : List Int} : tiesAt ns k many last wide times 0 = ([], k) := by delta tiesAt; exact rfl
theorem tiesAt_s {ns : List Int} {k : Nat} {many last wide : Int} {times : List Int} {i : Nat} : tiesAt ns k many last wide times (i + 1) = ((tiesAt ns k many last wide times i).1 ++ [(tie1 ns (tiesAt ns k many last wide times i).2 many last wide times).1], (tie1 ns (tiesAt ns k many last wide times i).2 many last wide times).2) := by delta tiesAt; exact rfl
@[irreducible] def ltimes (ns : List Int) (k : Nat) (many last : Int) : List Int := 0 :: timesAt ns k last (many - 1).toNat
@[irreducible] def ties (ns : List Int) (k : Nat) (many last wide : Int) : List T4 × Nat :=
  tiesAt ns (tcount ns (k + (many - 1).toNat) wide).2 many last wide (ltimes ns k many last) (tcount ns (k + (many - 1).toNat) wide).1.toNat
theorem ties_eq {ns : List Int} {k : Nat} {many last wide : Int} : ties ns k many last wide = tiesAt ns (tcount ns (k + (many - 1).toNat) wide).2 many last wide (ltimes ns k many last) (tcount ns (k + (many - 1).toNat) wide).1.toNat := by delta ties; exact rfl
theorem tcount_range {ns : List Int} {k : Nat} {wide : Int} : 0 ≤ (tcount ns k wide).1 ∧ (tcount ns k wide).1 ≤ 12 ∧ k ≤ (tcount ns k wide).2 ∧ (tcount ns k wide).2 ≤ k + 3 := by
  have h1 := nxt_range (ns := ns) (k := k) (m := 6) (by omega)
  have h2 := nxt_range (ns := ns) (k := k + 2) (m := 13) (by omega)
  unfold tcount
  split
  · split <;> (dsimp only; omega)
  · dsimp only; omega
theorem tie1_k {ns : List Int} {k : Nat} {many last wide : Int} {times : List Int} : k ≤ (tie1 ns k many last wide times).2 ∧ (tie1 ns k many last wide times).2 ≤ k + 6 := by
  have h := tnear_k (ns := ns) (k := k) (many := many) (last := last) (times := times)
  rw [tie1_eq]
  dsimp only
  omega
theorem tiesAt_k {ns : List Int} {k : Nat} {many last wide : Int} {times : List Int} : ∀ i : Nat, k ≤ (tiesAt ns k many last wide times i).2 ∧ (tiesAt ns k many last wide times i).2 ≤ k + 6 * i
  | 0 => by rw [tiesAt_0]; exact ⟨Nat.le_refl _, Nat.le_refl _⟩
  | i + 1 => by
    have h := tiesAt_k (ns := ns) (k := k) (many := many) (last := last) (wide := wide) (times := times) i
    have h2 := tie1_k (ns := ns) (k := (tiesAt ns k many last wide times i).2) (many := many) (last := last) (wide := wide) (times := times)
    have e : (tiesAt ns k many last wide times (i + 1)).2 = (tie1 ns (tiesAt ns k many last wide times i).2 many last wide times).2 := by rw [tiesAt_s]
    omega
theorem tiesAt_len {ns : List Int} {k : Nat} {many last wide : Int} {times : List Int} : ∀ i : Nat, (tiesAt ns k many last wide times i).1.length = i
  | 0 => by rw [tiesAt_0]; rfl
  | i + 1 => by
    rw [tiesAt_s]
    dsimp only
    rw [List.length_append, tiesAt_len i]; rfl
theorem ties_k {ns : List Int} {k : Nat} {many last wide : Int} (hm : 2 ≤ many) (hm2 : many ≤ 8) : k ≤ (ties ns k many last wide).2 ∧ (ties ns k many last wide).2 ≤ k + 100 := by
  have h := tcount_range (ns := ns) (k := k + (many - 1).toNat) (wide := wide)
  have h3 := tiesAt_k (ns := ns) (k := (tcount ns (k + (many - 1).toNat) wide).2) (many := many) (last := last) (wide := wide) (times := ltimes ns k many last) (tcount ns (k + (many - 1).toNat) wide).1.toNat
  unfold ties
  omega
theorem ties_len {ns : List Int} {k : Nat} {many last wide : Int} : (ties ns k many last wide).1.length ≤ 12 := by
  have h := tcount_range (ns := ns) (k := k + (many - 1).toNat) (wide := wide)
  unfold ties
  rw [tiesAt_len]
  omega
theorem ltimes_eq {ns : List Int} {k : Nat} {many last : Int} : ltimes ns k many last = 0 :: timesAt ns k last (many - 1).toNat := by delta ltimes; exact rfl
theorem timesAt_eq {ns : List Int} {k : Nat} {last : Int} {n : Nat} : timesAt ns k last n = (List.range n).map fun i => nxt ns (k + i) (last + 1) := by delta timesAt; exact rfl
theorem ltimes_len {ns : List Int} {k : Nat} {many last : Int} (h : 1 ≤ many) : ((ltimes ns k many last).length : Int) = many := by
  rw [ltimes_eq, timesAt_eq, List.length_cons, List.length_map, List.length_range]
  omega
inductive I__law_ties (K : PySem.W.Frag) : Inst
  | mk (d sa : Addr) (ns : List Int) (k : Nat) (many last wide : Int) (hl : ns.length ≤ 63) (hk : k ≤ 50000) (h1 : 2 ≤ many) (h2 : many ≤ 8) (h3 : 1 ≤ wide) (h4 : wide ≤ 8) (h5 : 1 ≤ last) (h6 : last ≤ 60) :
    I__law_ties K [.val (.ref d), .dat (.int many), .dat (.int last), .dat (.int wide)] [(d, .dice K sa ns k)] (.lst ((ties ns k many last wide).1.map e4)) [(d, .dice K sa ns (ties ns k many last wide).2)]

/-! ### webs -/
def nm4 (many turn : Int) (t : T4) : T4 := (named t.1 many turn, named t.2.1 many turn, t.2.2.1, t.2.2.2)
@[irreducible] def lwMany (ns : List Int) (k : Nat) (most : Int) : Int := 2 + nxt ns k (most - 1)
@[irreducible] def lwLast (ns : List Int) (k : Nat) (last : Int) : Int := 1 + nxt ns (k + 1) last
@[irreducible] def lwF (ns : List Int) (k : Nat) (most wide : Int) : List T4 × Nat := falls ns (k + 2) (lwMany ns k most) wide
@[irreducible] def lwT (ns : List Int) (k : Nat) (most last wide : Int) : List T4 × Nat := ties ns (lwF ns k most wide).2 (lwMany ns k most) (lwLast ns k last) wide
@[irreducible] def lwTurn (ns : List Int) (k : Nat) (most last wide : Int) : Int := nxt ns (lwT ns k most last wide).2 (lwMany ns k most)
@[irreducible] def lawWeb (ns : List Int) (k : Nat) (most last wide : Int) : WebD × Nat :=
  (⟨lwMany ns k most, lwLast ns k last, (lwT ns k most last wide).1.map (nm4 (lwMany ns k most) (lwTurn ns k most last wide)), (lwF ns k most wide).1.map (nm4 (lwMany ns k most) (lwTurn ns k most last wide))⟩, (lwT ns k most last wide).2 + 1)
theorem lawWeb_eq {ns : List Int} {k : Nat} {most last wide : Int} : lawWeb ns k most last wide = (⟨lwMany ns k most, lwLast ns k last, (lwT ns k most last wide).1.map (nm4 (lwMany ns k most) (lwTurn ns k most last wide)), (lwF ns k most wide).1.map (nm4 (lwMany ns k most) (lwTurn ns k most last wide))⟩, (lwT ns k most last wide).2 + 1) := by delta lawWeb; exact rfl
theorem lwMany_eq {ns : List Int} {k : Nat} {most : Int} : lwMany ns k most = 2 + nxt ns k (most - 1) := by delta lwMany; exact rfl
theorem lwLast_eq {ns : List Int} {k : Nat} {last : Int} : lwLast ns k last = 1 + nxt ns (k + 1) last := by delta lwLast; exact rfl
theorem lwF_eq {ns : List Int} {k : Nat} {most wide : Int} : lwF ns k most wide = falls ns (k + 2) (lwMany ns k most) wide := by delta lwF; exact rfl
theorem lwT_eq {ns : List Int} {k : Nat} {most last wide : Int} : lwT ns k most last wide = ties ns (lwF ns k most wide).2 (lwMany ns k most) (lwLast ns k last) wide := by delta lwT; exact rfl
theorem lwTurn_eq {ns : List Int} {k : Nat} {most last wide : Int} : lwTurn ns k most last wide = nxt ns (lwT ns k most last wide).2 (lwMany ns k most) := by delta lwTurn; exact rfl
theorem lwMany_range {ns : List Int} {k : Nat} {most : Int} (hm : 2 ≤ most) : 2 ≤ lwMany ns k most ∧ lwMany ns k most ≤ most := by
  have h0 := nxt_range (ns := ns) (k := k) (m := most - 1) (by omega)
  rw [lwMany_eq]; omega
theorem lwLast_range {ns : List Int} {k : Nat} {last : Int} (hm : 1 ≤ last) : 1 ≤ lwLast ns k last ∧ lwLast ns k last ≤ last := by
  have h0 := nxt_range (ns := ns) (k := k + 1) (m := last) (by omega)
  rw [lwLast_eq]; omega
theorem lwF_k {ns : List Int} {k : Nat} {most wide : Int} (hm : 2 ≤ most) (hm2 : most ≤ 8) : k + 2 ≤ (lwF ns k most wide).2 ∧ (lwF ns k most wide).2 ≤ k + 62 := by
  have h := lwMany_range (ns := ns) (k := k) hm
  have h1 := falls_k (ns := ns) (k := k + 2) (many := lwMany ns k most) (wide := wide) (by omega) (by omega)
  rw [lwF_eq]; omega
theorem lwT_k {ns : List Int} {k : Nat} {most last wide : Int} (hm : 2 ≤ most) (hm2 : most ≤ 8) : k + 2 ≤ (lwT ns k most last wide).2 ∧ (lwT ns k most last wide).2 ≤ k + 162 := by
  have h := lwMany_range (ns := ns) (k := k) hm
  have h1 := lwF_k (ns := ns) (k := k) (wide := wide) hm hm2
  have h2 := ties_k (ns := ns) (k := (lwF ns k most wide).2) (many := lwMany ns k most) (last := lwLast ns k last) (wide := wide) (by omega) (by omega)
  rw [lwT_eq]; omega
theorem lawWeb_k {ns : List Int} {k : Nat} {most last wide : Int} (hm : 2 ≤ most) (hm2 : most ≤ 8) : k ≤ (lawWeb ns k most last wide).2 ∧ (lawWeb ns k most last wide).2 ≤ k + 200 := by
  have h := lwT_k (ns := ns) (k := k) (last := last) (wide := wide) hm hm2
  rw [lawWeb_eq]
  dsimp only
  omega
inductive I__law_web (K : PySem.W.Frag) : Inst
  | mk (d sa : Addr) (ns : List Int) (k : Nat) (most last wide : Int) (hl : ns.length ≤ 63) (hk : k ≤ 40000) (h1 : 2 ≤ most) (h2 : most ≤ 8) (h3 : 1 ≤ wide) (h4 : wide ≤ 8) (h5 : 1 ≤ last) (h6 : last ≤ 60) :
    I__law_web K [.val (.ref d), .dat (.int most), .dat (.int last), .dat (.int wide)] [(d, .dice K sa ns k)] (eW (lawWeb ns k most last wide).1) [(d, .dice K sa ns (lawWeb ns k most last wide).2)]
end W
set_option Elab.async false
set_option linter.all false
set_option maxRecDepth 100000
set_option maxHeartbeats 4000000
namespace DL
open PySem L2 PyProof.Rows
open Evl (Ex)

/-! ### an owned thing changed, by its address -/
def chg (F : Fs) (a : Addr) (f : FO) : Fs := F.map fun q => if q.1 = a then (a, f) else q
theorem chg_split {F R : Fs} {a : Addr} {f f' : FO} (nd : ((F ++ (a, f) :: R).map (·.1)).Nodup) : chg (F ++ (a, f) :: R) a f' = F ++ (a, f') :: R := by
  rw [List.map_append, List.map_cons] at nd
  have n1 : ∀ q ∈ F, q.1 ≠ a := fun q hq e => (List.nodup_append.mp nd).2.2 q.1 (List.mem_map_of_mem hq) a List.mem_cons_self e
  have n2 : ∀ q ∈ R, q.1 ≠ a := fun q hq e => (List.nodup_cons.mp (List.nodup_append.mp nd).2.1).1 (by have z := List.mem_map_of_mem (f := fun z : Addr × FO => z.1) hq; rw [e] at z; exact z)
  unfold chg
  rw [List.map_append, List.map_cons]
  have id1 : ∀ l : Fs, (∀ q ∈ l, q.1 ≠ a) → l.map (fun q => if q.1 = a then (a, f') else q) = l := fun l h => by
    conv => rhs; rw [← List.map_id l]
    exact List.map_congr_left fun q hq => if_neg (h q hq)
  rw [id1 F n1, id1 R n2]
  simp
theorem ad_putM {F : Fs} {a : Addr} {f : FO} : ad (chg F a f) = ad F := by
  unfold ad chg
  rw [List.map_map]
  refine List.map_congr_left fun q _ => ?_
  by_cases h : q.1 = a
  · simp [h]
  · simp [h]
theorem SF.putM {F : Fs} {G H : Hp} {a : Addr} {f f' : FO} {o : HO} (s : SF F G H) (hm : (a, f) ∈ F) (hf : FOk G (upd H a o) a f') : SF (chg F a f') G (upd H a o) := by
  obtain ⟨F1, R, rfl⟩ := List.append_of_mem hm
  rw [chg_split s.nd]
  exact s.put hf
theorem mem_adM {F : Fs} {a : Addr} {f : FO} (h : (a, f) ∈ F) : a ∈ ad F := List.mem_map_of_mem (f := fun q : Addr × FO => q.1) h
theorem chg_nil {a : Addr} {f : FO} : chg [] a f = [] := rfl
theorem chg_eq {F : Fs} {a : Addr} {f g : FO} : chg ((a, g) :: F) a f = (a, f) :: chg F a f := by
  unfold chg; rw [List.map_cons, if_pos rfl]
theorem chg_ne {F : Fs} {a b : Addr} {f g : FO} (h : b ≠ a) : chg ((b, g) :: F) a f = (b, g) :: chg F a f := by
  unfold chg; rw [List.map_cons, if_neg h]
theorem chg_out {F : Fs} {a : Addr} {f : FO} (h : a ∉ ad F) : chg F a f = F := by
  unfold chg
  conv => rhs; rw [← List.map_id F]
  exact List.map_congr_left fun q hq => if_neg fun e => h (by rw [← e]; exact List.mem_map_of_mem (f := fun q : Addr × FO => q.1) hq)

/-! ### fields -/
def fldE : List Str → List En → Str → Option En
  | n :: ns, e :: es, f => if f = n then some e else fldE ns es f
  | _, _, _ => none
def putE (f : Str) (e : En) : List Str → List En → List Str × List En
  | n :: ns, x :: xs => if n = f then (n :: ns, e :: xs) else (n :: (putE f e ns xs).1, x :: (putE f e ns xs).2)
  | _, _ => ([f], [e])
inductive AO1 (G : Hp) : V → En → Prop
  | dat {v : V} {d : D} : Rp G v d → AO1 G v (.dat d)
  | val {v : V} : AO1 G v (.val v)
theorem AO.cons1 {G : Hp} {v : V} {vs : List V} {e : En} {as : List En} (h : AO1 G v e) (r : AO G vs as) : AO G (v :: vs) (e :: as) := by
  cases h with
  | dat h => exact .dat h r
  | val => exact .val r
theorem AO.uncons {G : Hp} {v : V} {vs : List V} {e : En} {as : List En} (h : AO G (v :: vs) (e :: as)) : AO1 G v e ∧ AO G vs as := by
  cases h with
  | dat h r => exact ⟨.dat h, r⟩
  | val r => exact ⟨.val, r⟩
theorem fldE_ok {G : Hp} {f : Str} : ∀ {fs : List (Str × V)} {as : List En} {e : En}, AO G (fs.map (·.2)) as → fldE (fs.map (·.1)) as f = some e → ∃ v, fs.lookup f = some v ∧ AO1 G v e
  | [], as, e, r, h => by cases as <;> cases h
  | (n, v) :: fs, [], e, r, h => by cases h
  | (n, v) :: fs, a :: as, e, r, h => by
    obtain ⟨r1, r2⟩ := AO.uncons r
    have h2 : (if f = n then some a else fldE (fs.map (·.1)) as f) = some e := h
    by_cases q : f = n
    · subst q
      rw [if_pos rfl] at h2
      cases h2
      exact ⟨v, by simp [List.lookup], r1⟩
    · rw [if_neg q] at h2
      obtain ⟨w, h3, h4⟩ := fldE_ok r2 h2
      have e2 : (f == n) = false := by simpa using q
      exact ⟨w, by rw [List.lookup_cons, e2]; exact h3, h4⟩
theorem putE_ok {G : Hp} {f : Str} {y : V} {e : En} (hy : AO1 G y e) : ∀ {fs : List (Str × V)} {as : List En}, AO G (fs.map (·.2)) as → (putF f y fs).map (·.1) = (putE f e (fs.map (·.1)) as).1 ∧ AO G ((putF f y fs).map (·.2)) (putE f e (fs.map (·.1)) as).2
  | [], as, r => by
    cases as with
    | nil => exact ⟨rfl, AO.cons1 hy .nil⟩
    | cons a as => cases r
  | (n, v) :: fs, [], r => by cases r
  | (n, v) :: fs, a :: as, r => by
    obtain ⟨r1, r2⟩ := AO.uncons r
    obtain ⟨h1, h2⟩ := putE_ok hy r2
    by_cases q : n = f
    · have e1 : putF f y ((n, v) :: fs) = (n, y) :: fs := if_pos q
      have e2 : putE f e (((n, v) :: fs).map (·.1)) (a :: as) = (n :: fs.map (·.1), e :: as) := if_pos q
      rw [e1, e2]
      exact ⟨rfl, AO.cons1 hy r2⟩
    · have e1 : putF f y ((n, v) :: fs) = (n, v) :: putF f y fs := if_neg q
      have e2 : putE f e (((n, v) :: fs).map (·.1)) (a :: as) = (n :: (putE f e (fs.map (·.1)) as).1, a :: (putE f e (fs.map (·.1)) as).2) := if_neg q
      rw [e1, e2]
      exact ⟨congrArg (n :: ·) h1, AO.cons1 r1 h2⟩
theorem lookup_no {mn : Str} : ∀ {fs : List (Str × V)}, mn ∉ fs.map (·.1) → fs.lookup mn = none
  | [], _ => rfl
  | (f, z) :: fs, h => by
    have q : mn ≠ f := fun e => h (by rw [e]; exact List.mem_cons_self)
    have e2 : (mn == f) = false := by simpa using q
    rw [List.lookup_cons, e2]
    exact lookup_no fun z => h (List.mem_cons_of_mem _ z)
section
variable {Γ : Cn} {es es' : List En} {F F1 F2 R Fd Fd' : Fs} {G H G2 H2 : Hp} {σ : L2.St} {ta te tl to tv : TE} {t u : TT} {tas : TA} {d : D} {v : V} {b : Bool} {i j k : Nat} {n m lo : Int} {as as' : List En} {ds : List D} {Dn : Ends} {tz tu tw tb : TS} {P : L2.St → Hp → Prop} {K : PySem.W.Frag} {a C : Addr} {ns : List Str} {f : Str}
theorem evv_fldO (ho : EvV ta es F (.ref a) F1) (hm : (a, FO.obj C ns as) ∈ F1) (hc : Cls K C) (hn : NoAttr K C f) (hf : fldE ns as f = some (.val v)) : EvV (tFld K ta f) es F v F1 := ⟨ho.1, fun G H σ s Q k => ho.2 G H σ s _ fun G1 H1 s1 g1 => by
  obtain ⟨_, dx, fs, h1, h2, h3⟩ := s1.f.sf _ hm
  subst h2
  obtain ⟨w, h4, h5⟩ := fldE_ok h3 hf
  cases h5
  exact ⟨a, C, dx, fs, v, rfl, h1, hc, hn, h4, k G1 H1 s1 g1⟩⟩
theorem evx_fldO (ho : EvV ta es F (.ref a) F1) (hm : (a, FO.obj C ns as) ∈ F1) (hc : Cls K C) (hn : NoAttr K C f) (hf : fldE ns as f = some (.dat d)) : EvX (tFld K ta f) es F d F1 := ⟨ho.1, fun G H σ s Q k => ho.2 G H σ s _ fun G1 H1 s1 g1 => by
  obtain ⟨_, dx, fs, h1, h2, h3⟩ := s1.f.sf _ hm
  subst h2
  obtain ⟨w, h4, h5⟩ := fldE_ok h3 hf
  cases h5 with
  | dat h5 => exact ⟨a, C, dx, fs, w, rfl, h1, hc, hn, h4, k w G1 H1 s1 g1 h5⟩⟩
/-- self.f = e -/
theorem go_sfld (hv : EvX tv es F d F1) (ho : EvV to es F1 (.ref a) F1) (hm : (a, FO.obj C ns as) ∈ F1) (hc : Cls K C) (hn : NoAttr K C f) (hl : ns.length < 1000)
    (kk : Go Γ es (chg F1 a (.obj C (putE f (.dat d) ns as).1 (putE f (.dat d) ns as).2)) (tz Dn)) : Go Γ es F (tSeq (sFld K to tv f) tz Dn) := fun G H σ st =>
  hv.2 G H σ st.s _ fun v G1 H1 s1 g1 r1 => ho.2 G1 H1 σ s1 _ fun G2 H2 s2 g2 => by
    obtain ⟨ga, dx, fs, h1, h2, h3⟩ := s2.f.sf _ hm
    subst h2
    refine ⟨a, C, dx, fs, rfl, h1, hc, hn, by rw [List.length_map] at hl; exact hl, ?_⟩
    obtain ⟨p1, p2⟩ := putE_ok (f := f) (.dat (r1.mono g2.gg)) h3
    have st2 := (st.step s1 g1 hv.1).step s2 g2 rfl
    exact kk G2 _ σ (st2.step ⟨s2.f.putM (f' := .obj C _ _) hm ⟨dx, _, upd_same, p1, p2⟩, s2.se⟩ (gro_put s2.gex ga (mem_adM hm)) ad_putM)
theorem go_sfldV (hv : EvV tv es F v F1) (ho : EvV to es F1 (.ref a) F1) (hm : (a, FO.obj C ns as) ∈ F1) (hc : Cls K C) (hn : NoAttr K C f) (hl : ns.length < 1000)
    (kk : Go Γ es (chg F1 a (.obj C (putE f (.val v) ns as).1 (putE f (.val v) ns as).2)) (tz Dn)) : Go Γ es F (tSeq (sFld K to tv f) tz Dn) := fun G H σ st =>
  hv.2 G H σ st.s _ fun G1 H1 s1 g1 => ho.2 G1 H1 σ s1 _ fun G2 H2 s2 g2 => by
    obtain ⟨ga, dx, fs, h1, h2, h3⟩ := s2.f.sf _ hm
    subst h2
    refine ⟨a, C, dx, fs, rfl, h1, hc, hn, by rw [List.length_map] at hl; exact hl, ?_⟩
    obtain ⟨p1, p2⟩ := putE_ok (f := f) (e := .val v) .val h3
    have st2 := (st.step s1 g1 hv.1).step s2 g2 rfl
    exact kk G2 _ σ (st2.step ⟨s2.f.putM (f' := .obj C _ _) hm ⟨dx, _, upd_same, p1, p2⟩, s2.se⟩ (gro_put s2.gex ga (mem_adM hm)) ad_putM)
/-- o.m(..) of an owned object -/
theorem evx_methO {I : Inst} {r : D} {E : XK} {mn : Str} (ho : EvV ta es F (.ref a) F1) (hm : (a, FO.obj C ns as') ∈ F1) (hn : mn ∉ ns) (ha : EvA tas es F1 as (Fd ++ R)) (hI : I (.val (.ref a) :: as) Fd r Fd') (he : ad Fd' = ad Fd) :
    EvX (tMeth C mn (spD I) [] E ta tas) es F r (Fd' ++ R) :=
  ⟨by rw [← ho.1, ← ha.1, ad_app, ad_app, he], fun G H σ s Q k => ho.2 G H σ s _ fun G1 H1 s1 g1 => by
    obtain ⟨ga, dx, fs, h1, h2, h3⟩ := s1.f.sf _ hm
    subst h2
    refine ⟨a, dx, fs, rfl, h1, lookup_no hn, ?_⟩
    refine ha.2 G1 H1 σ s1 _ fun vs G2 H2 s2 g2 r2 => ?_
    rw [List.append_nil]
    refine ⟨_, Fd, r, Fd', G2, hI, .val r2, s2.f.left, fun v G3 H3 s3 g3 r3 => ?_⟩
    have g4 : Gro (ad (Fd ++ R)) G2 H2 G3 H3 := g3.wide fun x hx => by rw [ad_app]; exact List.mem_append_left _ hx
    exact k v G3 H3 ⟨SF.keep s2.f g3 s3 he, s2.se.mono g3.gg⟩ ((g1.then ho.1 g2).then (ha.1.trans ho.1) g4) r3⟩
theorem evx_methO1 {I : Inst} {r : D} {E : XK} {mn : Str} {fo fo' : FO} (ho : EvV ta es F (.ref a) F1) (hm : (a, FO.obj C ns as') ∈ F1) (hn : mn ∉ ns) (ha : EvA tas es F1 as ((a, fo) :: R)) (hI : I (.val (.ref a) :: as) [(a, fo)] r [(a, fo')]) :
    EvX (tMeth C mn (spD I) [] E ta tas) es F r ((a, fo') :: R) := evx_methO (Fd := [(a, fo)]) (Fd' := [(a, fo')]) ho hm hn ha hI rfl
end

/-! ### freezing -/
theorem SF.del {F R : Fs} {G H : Hp} {l : Addr} {f : FO} {o : HO} (s : SF (F ++ (l, f) :: R) G H) (hx : H l = some o) : SF (F ++ R) (upd G l o) H ∧ Ex G (upd G l o) := by
  have ga : G l = none := (s.sf (l, f) (List.mem_append_right _ List.mem_cons_self)).1
  have e1 : Ex G (upd G l o) := Evl.Ex.new ga
  have nd := s.nd
  rw [List.map_append, List.map_cons] at nd
  have n1 : ∀ q ∈ F, q.1 ≠ l := fun q hq e => (List.nodup_append.mp nd).2.2 q.1 (List.mem_map_of_mem hq) l List.mem_cons_self e
  have n2 : ∀ q ∈ R, q.1 ≠ l := fun q hq e => (List.nodup_cons.mp (List.nodup_append.mp nd).2.1).1 (by have z := List.mem_map_of_mem (f := fun z : Addr × FO => z.1) hq; rw [e] at z; exact z)
  refine ⟨⟨fun a u q => ?_, fun q hq => ?_, ?_⟩, e1⟩
  · by_cases z : a = l
    · subst z; rw [upd_same] at q; rw [hx]; exact q
    · rw [upd_ne z] at q; exact s.gh a u q
  · have z1 : q ∈ F ++ (l, f) :: R ∧ q.1 ≠ l := by
      rcases List.mem_append.mp hq with z | z
      · exact ⟨List.mem_append_left _ z, n1 q z⟩
      · exact ⟨List.mem_append_right _ (List.mem_cons_of_mem _ z), n2 q z⟩
    have z := s.sf q z1.1
    exact ⟨by rw [upd_ne z1.2]; exact z.1, z.2.mono e1 fun _ y => y⟩
  · rw [List.map_append]
    have nd2 := List.nodup_append.mp nd
    exact List.nodup_append.mpr ⟨nd2.1, (List.nodup_cons.mp nd2.2.1).2, fun a ha b hb => nd2.2.2 a ha b (List.mem_cons_of_mem _ hb)⟩
/-- an owned object is changed no more -/
theorem SF.delO {F R : Fs} {G H : Hp} {l C : Addr} {ns : List Str} {as : List En} {ds : List D} (s : SF (F ++ (l, .obj C ns as) :: R) G H) (hd : dats as = some ds) :
    ∃ o, SF (F ++ R) (upd G l o) H ∧ Ex G (upd G l o) ∧ G l = none ∧ Rp (upd G l o) (.ref l) (.obj C ns ds) := by
  obtain ⟨ga, dx, fs, h1, h2, h3⟩ := s.sf (l, .obj C ns as) (List.mem_append_right _ List.mem_cons_self)
  obtain ⟨s2, e⟩ := s.del h1
  exact ⟨_, s2, e, ga, .obj upd_same h2 ((h3.rpa hd).mono e)⟩
section
variable {Γ : Cn} {es es' : List En} {F F1 F2 R Fd Fd' : Fs} {G H G2 H2 : Hp} {σ : L2.St} {tas : TA} {as as' : List En} {ds : List D} {Dn : Ends} {K : PySem.W.Frag} {a C : Addr} {ns : List Str} {S : List Addr}
theorem gro_froz {o : HO} (gh : Ex (upd G a o) H) (ga : G a = none) (ha : a ∈ S ∨ H a = none) : Gro S G H (upd G a o) H :=
  ⟨Evl.Ex.new ga, gh, fun _ _ _ q => q, fun b u n q => upd_ne fun e => by
    subst e
    rcases ha with z | z
    · exact n z
    · rw [z] at q; cases q⟩
/-- C(..): made, then changed no more -/
theorem evx_make {I : Inst} {E : XK} (ha : EvA tas es F as (Fd ++ R)) (hI : ∀ x, I (.val (.ref x) :: as) ((x, .obj C [] []) :: Fd) .non ((x, .obj C ns as') :: Fd')) (hd : dats as' = some ds) (he : ad Fd' = ad Fd) :
    EvX (tMake C (spD I) [] E tas) es F (.obj C ns ds) (Fd' ++ R) := ⟨by rw [← ha.1, ad_app, ad_app, he], fun G H σ s Q k =>
  ha.2 G H σ s _ fun vs G1 H1 s1 g1 r1 => fun x dx hx hdx ne => by
    rw [List.append_nil]
    have g2 : Gro [] G1 H1 G1 (upd H1 dx (.own x)) := gro_laid s1.gex hdx
    have s2 : SF (Fd ++ R) G1 (upd H1 dx (.own x)) := s1.f.laid hdx
    have hx2 : (upd H1 dx (.own x)) x = none := by rw [upd_ne (fun e => ne e.symm)]; exact hx
    have g3 : Gro [] G1 (upd H1 dx (.own x)) G1 (upd (upd H1 dx (.own x)) x (.ins C dx [])) := gro_laid s2.gh hx2
    have s3 := s2.newOwn (f := .obj C [] []) (o := .ins C dx []) hx2 ⟨dx, [], upd_same, rfl, .nil⟩
    have gx : G1 x = none := Evl.fresh_back s1.gex hx
    -- turned: x ahead
    have s4 : SF (((x, .obj C [] []) :: Fd) ++ R) G1 (upd (upd H1 dx (.own x)) x (.ins C dx [])) := ⟨s3.gh, fun q hq => s3.sf q (by
        rcases List.mem_append.mp hq with z | z
        · rcases List.mem_cons.mp z with z | z
          · subst z; exact List.mem_append_right _ List.mem_cons_self
          · exact List.mem_append_left _ (List.mem_append_left _ z)
        · exact List.mem_append_left _ (List.mem_append_right _ z)), by
      have nd := s3.nd
      rw [List.map_append] at nd
      have z := List.nodup_append.mp nd
      show (x :: (Fd ++ R).map (·.1)).Nodup
      exact List.nodup_cons.mpr ⟨fun h => z.2.2 x h x (by simp) rfl, z.1⟩⟩
    refine ⟨_, (x, .obj C [] []) :: Fd, .non, (x, .obj C ns as') :: Fd', G1, hI x, .val r1, s4.left, fun v G5 H5 s5 g5 r5 => ?_⟩
    refine ⟨rp_non r5, ?_⟩
    have he2 : ad ((x, FO.obj C ns as') :: Fd') = ad ((x, FO.obj C [] []) :: Fd) := by
      unfold ad at he ⊢; rw [List.map_cons, List.map_cons, he]
    have s6 : SF (((x, .obj C ns as') :: Fd') ++ R) G5 H5 := SF.keep s4 g5 s5 he2
    obtain ⟨o, s7, e7, g7, r7⟩ := SF.delO (F := []) (R := Fd' ++ R) s6 hd
    have g6 : Gro (x :: ad (Fd ++ R)) G1 H1 G5 H5 := ((g2.trans g3 fun x h => by cases h).wide (T := x :: ad (Fd ++ R)) fun x h => by cases h).trans (g5.wide (T := x :: ad (Fd ++ R)) fun y hy => by
      rw [ad_app]
      have hy2 : y ∈ x :: ad Fd := hy
      rcases List.mem_cons.mp hy2 with z | z
      · rw [z]; exact List.mem_cons_self
      · exact List.mem_cons_of_mem _ (List.mem_append_left _ z)) fun _ h => .inl h
    have g8 : Gro (ad (Fd ++ R)) G1 H1 (upd G5 x o) H5 := ⟨g6.gg.trans e7, s7.gh, fun b u n q => g6.fr b u (fun z => by
        rcases List.mem_cons.mp z with z | z
        · subst z; rw [hx] at q; cases q
        · exact n z) q, fun b u n q => by
      have nb : b ≠ x := fun z => by subst z; rw [hx] at q; cases q
      rw [upd_ne nb]
      exact g6.fz b u (fun z => by
        rcases List.mem_cons.mp z with z | z
        · exact nb z
        · exact n z) q⟩
    exact k _ _ H5 ⟨s7, s1.se.mono g8.gg⟩ (g1.then ha.1 g8) r7⟩
theorem evx_make0 {I : Inst} {E : XK} (ha : EvA tas es F as F1) (hI : ∀ x, I (.val (.ref x) :: as) [(x, .obj C [] [])] .non [(x, .obj C ns as')]) (hd : dats as' = some ds) :
    EvX (tMake C (spD I) [] E tas) es F (.obj C ns ds) F1 := evx_make (Fd := []) (Fd' := []) ha hI hd rfl
/-- an owned object in a slot is changed no more -/
theorem go_ndp {P : L2.St → Hp → Prop} (h : (ad F).Nodup → Go Γ es F P) : Go Γ es F P := fun G H σ st => h st.s.f.nd G H σ st
end
end DL
set_option Elab.async false
set_option linter.all false
set_option maxRecDepth 100000
set_option maxHeartbeats 4000000
namespace DL
open PySem L2 PyProof.Rows
open Evl (Ex)
section
variable {Γ : Cn} {es es' : List En} {F F1 F2 F3 R : Fs} {G H G2 H2 : Hp} {σ : L2.St} {ta te tl to tv tb : TE} {t u : TT} {tas : TA} {d d1 d2 : D} {v : V} {b : Bool} {i j k : Nat} {n m lo : Int} {as : List En} {ds ds' : List D} {ns ms : List Int} {Dn : Ends} {K : PySem.W.Frag}

/-! ### flat data: in, index -/
def flatD : D → Option V
  | .non => some .non | .bl b => some (.bl b) | .int i => some (.int i) | .str x => some (.str x) | _ => none
theorem flatD_rp {G : Hp} {v w : V} {d : D} (r : Rp G v d) (h : flatD d = some w) : v = w ∧ flatV v = true := by
  cases r <;> cases h <;> exact ⟨rfl, rfl⟩
theorem inV_ints {x : Int} : ∀ (ns : List Int), inV (.int x) (ns.map V.int) = decide (x ∈ ns)
  | [] => rfl
  | n :: ns => by
    show (eqV (.int n) (.int x) || inV (.int x) (ns.map V.int)) = _
    rw [inV_ints ns]
    have e : eqV (.int n) (.int x) = decide (x = n) := by
      show (n == x) = _
      by_cases h : x = n
      · subst h; simp
      · have h2 : (n == x) = false := by simp; exact fun e => h e.symm
        rw [h2]; simp [h]
    rw [e]
    by_cases h : x = n
    · simp [h]
    · simp [h]
theorem flat_ints : ∀ (ns : List Int), (ns.map V.int).all flatV = true
  | [] => rfl
  | n :: ns => by rw [List.map_cons, List.all_cons, flat_ints ns]; rfl
theorem rv_in {x : Int} : RvX (rIn K false) (.int x) (.lst (ns.map D.int)) (.bl (decide (x ∈ ns))) := rv_val fun v1 v2 G H Q r1 r2 e => by
  obtain ⟨a, xs, rfl, h1, h2⟩ := rp_lst r2
  rw [rp_int r1]
  rw [RpA.ints h2] at h1
  refine ⟨_, .bl _, fun q => ⟨a, _, rfl, .inl (.inl (.inl (e _ _ h1))), rfl, flat_ints ns, ?_⟩⟩
  rw [inV_ints]
  exact q
theorem rv_notin {x : Int} : RvX (rIn K true) (.int x) (.lst (ns.map D.int)) (.bl (!decide (x ∈ ns))) := rv_val fun v1 v2 G H Q r1 r2 e => by
  obtain ⟨a, xs, rfl, h1, h2⟩ := rp_lst r2
  rw [rp_int r1]
  rw [RpA.ints h2] at h1
  refine ⟨_, .bl _, fun q => ⟨a, _, rfl, .inl (.inl (.inl (e _ _ h1))), rfl, flat_ints ns, ?_⟩⟩
  rw [inV_ints]
  exact q
theorem evx_index {x : Int} (ho : EvX to es F (.lst (ns.map D.int)) F1) (hx : EvX te es F1 (.int x) F2) (hj : ns[j]? = some x) (hno : ∀ m, m < j → ns[m]? ≠ some x) : EvX (tBM K "list" (rIndex K) to (tCons te tNil)) es F (.int j) F2 := ⟨hx.1.trans ho.1, fun G H σ s Q k =>
  ho.2 G H σ s _ fun v1 G1 H1 s1 g1 r1 => by
    obtain ⟨a, xs, rfl, h1, h2⟩ := rp_lst r1
    rw [RpA.ints h2] at h1
    refine ⟨.inl ⟨rfl, _, .inl (.inl (s1.gex _ _ h1))⟩, hx.2 G1 H1 σ s1 _ fun v2 G2 H2 s2 g2 r2 => ?_⟩
    rw [rp_int r2]
    refine ⟨a, _, .int x, j, .int x, rfl, rfl, .inl (.inl (s2.gex _ _ (g2.gg _ _ h1))), rfl, flat_ints ns, ?_, ?_, fun m z hm hz => ?_, k _ G2 H2 s2 (g1.then ho.1 g2) (.int _)⟩
    · rw [List.getElem?_map, hj]; rfl
    · show (x == x) = true
      simp
    · rw [List.getElem?_map] at hz
      obtain ⟨y, hy, e⟩ := Option.map_eq_some_iff.mp hz
      subst e
      show (y == x) = false
      have ne : y ≠ x := fun e => hno m hm (by rw [hy, e])
      simpa using ne⟩

/-! ### None, is -/
theorem evx_isN_t (r : R2) : True := trivial

/-! ### slices -/
theorem evo_none : EvO tNoPart es F none F := ⟨rfl, fun G H σ s Q k => k G H s (.refl s.gex)⟩
theorem evo_some (h : EvX te es F (.int n) F1) : EvO (tPart te) es F (some n) F1 := ⟨h.1, fun G H σ s Q k => h.2 G H σ s _ fun v G2 H2 s2 g r => by
  rw [rp_int r]
  exact ⟨n, rfl, k G2 H2 s2 g⟩⟩
def cutD (ds : List D) (lo hi : Option Int) : List D := (ds.drop (HT.sIx ds.length 0 lo)).take (HT.sIx ds.length ds.length hi - HT.sIx ds.length 0 lo)
theorem RpA.cut {G : Hp} {vs : List V} {ds : List D} (h : RpA G vs ds) (lo hi : Option Int) : RpA G (cutV vs lo hi) (cutD ds lo hi) := by
  unfold cutV cutD
  rw [h.len]
  exact (h.drop _).take _
theorem evx_slL {tlo thi : TO} {lo hi : Option Int} (he : EvX te es F (.lst ds) F1) (hlo : EvO tlo es F1 lo F2) (hhi : EvO thi es F2 hi F3) : EvX (tSl (rSlL K) te tlo thi) es F (.lst (cutD ds lo hi)) F3 := ⟨hhi.1.trans (hlo.1.trans he.1), fun G H σ s Q k =>
  he.2 G H σ s _ fun v1 G1 H1 s1 g1 r1 => hlo.2 G1 H1 σ s1 _ fun G2 H2 s2 g2 => hhi.2 G2 H2 σ s2 _ fun G3 H3 s3 g3 => by
    obtain ⟨a, xs, rfl, h1, h2⟩ := rp_lst r1
    refine ⟨a, xs, rfl, .inl (.inl (s3.gex _ _ (g3.gg _ _ (g2.gg _ _ h1)))), fun p hp => ?_⟩
    exact k _ _ _ (s3.grow (gro_new s3.gex hp)) (((g1.then he.1 g2).then (hlo.1.trans he.1) g3).then0 (gro_new s3.gex hp)) (.lst upd_same (((h2.cut lo hi).mono (g2.gg.trans g3.gg)).mono (gro_new (S := []) s3.gex hp).gg))⟩
theorem evx_slT {tlo thi : TO} {lo hi : Option Int} (he : EvX te es F (.tup ds) F1) (hlo : EvO tlo es F1 lo F2) (hhi : EvO thi es F2 hi F3) (hw : ¬ (HT.sIx ds.length 0 lo = 0 ∧ HT.sIx ds.length ds.length hi = ds.length)) : EvX (tSl (rSlT K) te tlo thi) es F (.tup (cutD ds lo hi)) F3 := ⟨hhi.1.trans (hlo.1.trans he.1), fun G H σ s Q k =>
  he.2 G H σ s _ fun v1 G1 H1 s1 g1 r1 => hlo.2 G1 H1 σ s1 _ fun G2 H2 s2 g2 => hhi.2 G2 H2 σ s2 _ fun G3 H3 s3 g3 => by
    obtain ⟨a, xs, rfl, h1, h2⟩ := rp_tup r1
    refine ⟨a, xs, rfl, .inl (.inl (s3.gex _ _ (g3.gg _ _ (g2.gg _ _ h1)))), by rw [h2.len]; exact hw, fun p hp => ?_⟩
    exact k _ _ _ (s3.grow (gro_new s3.gex hp)) (((g1.then he.1 g2).then (hlo.1.trans he.1) g3).then0 (gro_new s3.gex hp)) (.tup upd_same (((h2.cut lo hi).mono (g2.gg.trans g3.gg)).mono (gro_new (S := []) s3.gex hp).gg))⟩

/-! ### tuple(..), list(tuple) -/
theorem rc_listT : RcX (rListK K) [.dat (.tup ds)] (.lst ds) := fun G H vs e h Q k => by
  obtain ⟨v, rfl, r⟩ := ao1 h
  obtain ⟨a, xs, rfl, h1, h2⟩ := rp_tup r
  exact ⟨a, xs, rfl, .inr (.inl (.inl (e _ _ h1))), fun p hp => k _ _ _ (gro_new e hp) (.lst upd_same (h2.mono (gro_new (S := []) e hp).gg))⟩
theorem rc_tupL : RcX (rTupleK K) [.dat (.lst ds)] (.tup ds) := fun G H vs e h Q k => by
  obtain ⟨v, rfl, r⟩ := ao1 h
  obtain ⟨a, xs, rfl, h1, h2⟩ := rp_lst r
  exact ⟨a, xs, rfl, .inl ⟨.inl (.inl (e _ _ h1)), fun p hp => k _ _ _ (gro_new e hp) (.tup upd_same (h2.mono (gro_new (S := []) e hp).gg))⟩⟩

/-! ### == of data -/
mutual
def toPy : D → Option PyData
  | .non => some .none
  | .bl b => some (.bool b)
  | .int i => some (.int i)
  | .str x => some (.str x)
  | .tup ds => (toPyA ds).map .tuple
  | .lst ds => (toPyA ds).map .list
  | .obj _ _ _ => none
def toPyA : List D → Option (List PyData)
  | [] => some []
  | d :: ds => (toPy d).bind fun p => (toPyA ds).map (p :: ·)
end
mutual
theorem rp_dp {G H : Hp} (e : Ex G H) : ∀ {d : D} {v : V} {p : PyData}, Rp G v d → toPy d = some p → Dp K H v p
  | .non, v, p, r, h => by cases r; cases h; exact .non
  | .bl b, v, p, r, h => by cases r; cases h; exact .bl b
  | .int i, v, p, r, h => by cases r; cases h; exact .int i
  | .str x, v, p, r, h => by cases r; cases h; exact .str x
  | .tup ds, v, p, r, h => by
    cases r with
    | tup h1 h2 =>
      rw [toPy] at h
      obtain ⟨ps, hp, e2⟩ := Option.map_eq_some_iff.mp h
      subst e2
      exact .tup (.inl (.inl (e _ _ h1))) (rp_dpA e h2 hp)
  | .lst ds, v, p, r, h => by
    cases r with
    | lst h1 h2 =>
      rw [toPy] at h
      obtain ⟨ps, hp, e2⟩ := Option.map_eq_some_iff.mp h
      subst e2
      exact .lst (.inl (.inl (e _ _ h1))) (rp_dpA e h2 hp)
  | .obj _ _ _, v, p, r, h => by rw [toPy] at h; cases h
theorem rp_dpA {G H : Hp} (e : Ex G H) : ∀ {ds : List D} {vs : List V} {ps : List PyData}, RpA G vs ds → toPyA ds = some ps → DpAll K H vs ps
  | [], vs, ps, r, h => by cases r; rw [toPyA] at h; cases h; exact .nil
  | d :: ds, vs, ps, r, h => by
    cases r with
    | cons r1 r2 =>
      rw [toPyA] at h
      obtain ⟨p, hp, h2⟩ := Option.bind_eq_some_iff.mp h
      obtain ⟨qs, hq, e2⟩ := Option.map_eq_some_iff.mp h2
      subst e2
      exact .cons (rp_dp e r1 hp) (rp_dpA e r2 hq)
end
theorem rv_eqD {p q : PyData} (h1 : toPy d1 = some p) (h2 : toPy d2 = some q) (s1 : SeqAt.shaped p = true) (s2 : SeqAt.shaped q = true) : RvX (rEqD K) d1 d2 (.bl (PyData.eqv p q)) := rv_val fun v1 v2 G H Q r1 r2 e =>
  ⟨_, .bl _, fun k => ⟨p, q, rp_dp e r1 h1, rp_dp e r2 h2, s1, s2, k⟩⟩
theorem rv_neD {p q : PyData} (h1 : toPy d1 = some p) (h2 : toPy d2 = some q) (s1 : SeqAt.shaped p = true) (s2 : SeqAt.shaped q = true) : RvX (rNeD K) d1 d2 (.bl (!PyData.eqv p q)) := rv_val fun v1 v2 G H Q r1 r2 e =>
  ⟨_, .bl _, fun k => ⟨p, q, rp_dp e r1 h1, rp_dp e r2 h2, s1, s2, k⟩⟩
theorem toPyA_ints : ∀ (ns : List Int), toPyA (ns.map D.int) = some (ns.map PyData.int)
  | [] => by rw [List.map_nil, toPyA]; rfl
  | n :: ns => by rw [List.map_cons, toPyA, toPyA_ints ns, toPy]; rfl
theorem canLay_ints : ∀ (ns : List Int), PyData.canLayAll0 (ns.map PyData.int) = true
  | [] => rfl
  | n :: ns => by
    rw [List.map_cons]
    show (PyData.canLay0 (.int n) && PyData.canLayAll0 (ns.map PyData.int)) = true
    rw [canLay_ints ns]; rfl
end
end DL
namespace DL
open PySem L2 PyProof.Rows
section
variable {Γ : Cn} {es es' : List En} {F F1 F' R : Fs} {t : TT} {tu tw tz : TS} {Dn : Ends} {b : Bool} {Q : VK} {te : TE} {d : D}
theorem go_ifN (h : EvT t es F b F1) (hb : b = false) (k : Go Γ es F1 (tz Dn)) : Go Γ es F (tSeq (tIfS t tu tNext) tz Dn) := go_if h (fun z => by rw [hb] at z; cases z) (fun _ => k)
theorem go_ifN1 (h : EvT t es F b F1) (hb : b = false) (k : Go Γ es F1 (tNext Dn)) : Go Γ es F (tIfS t tu tNext Dn) := go_if1 h (fun z => by rw [hb] at z; cases z) (fun _ => k)
theorem go_fin (hn : Dn.nx = fun _ H' => Dn.rt .non H') (hr : Ret Γ F' .non Dn.rt) : Go Γ es F' (tNext Dn) := fun G H σ st => by
  show Dn.nx σ H
  rw [hn]
  exact hr .non G H st.s.f st.g .non
end
end DL
namespace DL
open PySem L2 PyProof.Rows
section
variable {P : Program} {w : World} {K : PySem.W.Frag} {mg : Str → Option Value} {base : Heap}
theorem makI {x qual : Str} {C : Addr} {st : Stmt} {f : Addr} {fd : FuncData} {N ps : List Str} {k : Nat} {I : Inst} (M : Mk K C f) (F : FunD K "__init__" qual (defArgs st) (defBody st) (defScope st) [] [] f fd) (gm : mg x = some (.ref C)) (S : FnScope N ps (defScope st)) (b : Binds K fd ps [])
    (hI : ∀ as F r F', I as F r F' → as.length = ps.length) (body : BodyI P w K mg base N qual st f k I) : Mak P w K mg base CX0 (k + 1) x C (spD I) := ⟨f, fd, ps, M, fnI F S hI body, gm, b⟩
end
end DL
namespace DL
open PySem L2 PyProof.Rows
section
variable {es : List En} {F : Fs} {v : V} {K : PySem.W.Frag} {ns : List Int} {n : Int}
theorem evv_c : EvV (tC v) es F v F := ⟨rfl, fun G H σ s Q k => k G H s (.refl s.gex)⟩
theorem depth_ints : ∀ (ns : List Int), PyData.depthAll (ns.map PyData.int) = 0
  | [] => rfl
  | n :: ns => by
    rw [List.map_cons]
    show max 0 (PyData.depthAll (ns.map PyData.int)) = 0
    rw [depth_ints ns]; rfl
theorem shaped_ints (ns : List Int) : SeqAt.shaped (.list (ns.map PyData.int)) = true := by
  unfold SeqAt.shaped
  have h1 : PyData.canLay0 (.list (ns.map PyData.int)) = true := canLay_ints ns
  have h2 : PyData.depth (.list (ns.map PyData.int)) = 1 := by
    show PyData.depthAll (ns.map PyData.int) + 1 = 1
    rw [depth_ints]
  rw [h1, h2]; rfl
theorem toPy_ints (ns : List Int) : toPy (.lst (ns.map D.int)) = some (.list (ns.map PyData.int)) := by
  rw [toPy, toPyA_ints]; rfl
theorem rv_eqNil : RvX (rEqD K) (.lst (ns.map D.int)) (.lst []) (.bl ns.isEmpty) := by
  have h := rv_eqD (K := K) (toPy_ints ns) (toPy_ints []) (shaped_ints ns) (shaped_ints [])
  cases ns <;> exact h
theorem rv_neNil : RvX (rNeD K) (.lst (ns.map D.int)) (.lst []) (.bl (!ns.isEmpty)) := by
  have h := rv_neD (K := K) (toPy_ints ns) (toPy_ints []) (shaped_ints ns) (shaped_ints [])
  cases ns <;> exact h
theorem rc_isiI : RcX (rIsi K) [.dat (.int n), .val (.ty "int")] (.bl true) := fun G H vs e h Q k => by
  cases h with
  | dat r h =>
    cases h with
    | val h =>
      cases h
      rw [rp_int r]
      exact ⟨_, _, _, _, true, rfl, .ty "int", .base (.int _), by rfl, k _ G H (.refl e) (.bl _)⟩
theorem rc_isiB : RcX (rIsi K) [.dat (.int n), .val (.ty "bool")] (.bl false) := fun G H vs e h Q k => by
  cases h with
  | dat r h =>
    cases h with
    | val h =>
      cases h
      rw [rp_int r]
      exact ⟨_, _, _, _, false, rfl, .ty "bool", .base (.int _), by kernel_rfl, k _ G H (.refl e) (.bl _)⟩
end
end DL
set_option Elab.async false
set_option linter.all false
set_option maxRecDepth 100000
set_option maxHeartbeats 4000000
/-! webs: what the class Web computes -/
namespace W
open PySem L2 DL
abbrev nW : List Str := ["many", "last", "tied", "falling"]
abbrev aW (w : WebD) : List En := [.dat (.int w.many), .dat (.int w.last), .dat (.lst (w.ties.map e4)), .dat (.lst (w.falls.map e4))]
abbrev dW (w : WebD) : List D := [.int w.many, .int w.last, .lst (w.ties.map e4), .lst (w.falls.map e4)]
abbrev cW (K : PySem.W.Frag) : Addr := He.ga K "Web"
abbrev oW (K : PySem.W.Frag) (w : WebD) : D := .obj (cW K) nW (dW w)
abbrev fW (K : PySem.W.Frag) (x : Addr) (w : WebD) : Addr × FO := (x, .obj (cW K) nW (aW w))
example : fldE nW (aW w) "tied" = some (.dat (.lst (w.ties.map e4))) := rfl
structure PairOk (many a b : Int) : Prop where
  a0 : 0 ≤ a
  a1 : a < many
  b0 : 0 ≤ b
  b1 : b < many
  ne : a ≠ b
structure TieOk (many : Int) (t : T4) : Prop where
  p : PairOk many t.1 t.2.1
  le : t.2.2.1 ≤ t.2.2.2
  lo : -60 ≤ t.2.2.1
  hi : t.2.2.2 ≤ 60
structure FallOk (many : Int) (ends : List Int) (t : T4) : Prop where
  p : PairOk many t.1 t.2.1
  nz : t.2.1 ≠ 0
  one : t.1 ∉ ends
  lo : 1 ≤ t.2.2.1
  le : t.2.2.1 ≤ t.2.2.2
  hi : t.2.2.2 ≤ 60
def ends (w : WebD) : List Int := w.falls.map (·.2.1)
structure WF (w : WebD) : Prop where
  m1 : 1 ≤ w.many
  m8 : w.many ≤ 8
  l1 : 1 ≤ w.last
  l60 : w.last ≤ 60
  tl : w.ties.length ≤ 1000
  fl : w.falls.length ≤ 1000
  t : ∀ t ∈ w.ties, TieOk w.many t
  f : ∀ t ∈ w.falls, FallOk w.many (ends w) t
  nd : (ends w).Nodup
def isPair (many a b : Int) : Bool := (decide (0 ≤ a) && decide (a < many)) && ((decide (0 ≤ b) && decide (b < many)) && !decide (a = b))
theorem isPair_ok {many a b : Int} (h : PairOk many a b) : isPair many a b = true := by
  obtain ⟨h1, h2, h3, h4, h5⟩ := h
  unfold isPair
  simp [h1, h2, h3, h4, h5]
inductive I_Web_is_pair (K : PySem.W.Frag) : Inst
  | mk (x : Addr) (w : WebD) (a b : Int) : I_Web_is_pair K [.val (.ref x), .dat (.int a), .dat (.int b)] [fW K x w] (.bl (isPair w.many a b)) [fW K x w]
inductive I_Web_need_tie (K : PySem.W.Frag) : Inst
  | mk (x : Addr) (w : WebD) (i : Nat) (h : WF w) (hi : i < w.ties.length) : I_Web_need_tie K [.val (.ref x), .dat (.int (i : Int))] [fW K x w] .non [fW K x w]
inductive I_Web_need_fall (K : PySem.W.Frag) : Inst
  | mk (x : Addr) (w : WebD) (i : Nat) (h : WF w) (hi : i < w.falls.length) : I_Web_need_fall K [.val (.ref x), .dat (.int (i : Int))] [fW K x w] .non [fW K x w]
inductive I_Web___init__ (K : PySem.W.Frag) : Inst
  | mk (x : Addr) (w : WebD) (h : WF w) : I_Web___init__ K [.val (.ref x), .dat (.int w.many), .dat (.int w.last), .dat (.lst (w.ties.map e4)), .dat (.lst (w.falls.map e4))] [(x, .obj (cW K) [] [])] .non [fW K x w]
/-! ### bounds -/
def bndM1 (last : Int) (i : Nat) : List T3 := [(0, (i : Int), last), ((i : Int), 0, 0)]
def bndM (last : Int) (n : Nat) : List T3 := (List.range n).flatMap fun i => bndM1 last (i + 1)
def bndT1 (t : T4) : List T3 := [(t.1, t.2.1, t.2.2.2), (t.2.1, t.1, 0 - t.2.2.1)]
def bndT (ts : List T4) : List T3 := ts.flatMap bndT1
def bounds (w : WebD) : List T3 := bndM w.last (w.many - 1).toNat ++ bndT (w.ties ++ w.falls)
theorem bndM_0 {last : Int} : bndM last 0 = [] := rfl
theorem bndM_s {last : Int} {n : Nat} : bndM last (n + 1) = bndM last n ++ [(0, ((n + 1 : Nat) : Int), last), (((n + 1 : Nat) : Int), 0, 0)] := by
  unfold bndM
  rw [List.range_succ, List.flatMap_append]
  rfl
theorem bndT_app {a b : List T4} : bndT (a ++ b) = bndT a ++ bndT b := List.flatMap_append
theorem bndT_s {ts : List T4} {i : Nat} {t : T4} (h : ts[i]? = some t) : bndT (ts.take (i + 1)) = bndT (ts.take i) ++ [(t.1, t.2.1, t.2.2.2), (t.2.1, t.1, 0 - t.2.2.1)] := by
  have hl := (List.getElem?_eq_some_iff.mp h).1
  rw [List.take_succ_eq_append_getElem hl, bndT_app]
  have e : ts[i] = t := (List.getElem?_eq_some_iff.mp h).2
  rw [e]; rfl
theorem bndM_len {last : Int} : ∀ n : Nat, (bndM last n).length = 2 * n
  | 0 => rfl
  | n + 1 => by rw [bndM_s, List.length_append, bndM_len n]; simp; omega
theorem bndT_len : ∀ ts : List T4, (bndT ts).length = 2 * ts.length
  | [] => rfl
  | t :: ts => by
    show (bndT1 t ++ bndT ts).length = _
    rw [List.length_append, bndT_len ts]; simp [bndT1]; omega
theorem bounds_len {w : WebD} (h : WF w) : (bounds w).length ≤ 5000 := by
  unfold bounds
  have := h.m8
  have := h.tl
  have := h.fl
  rw [List.length_append, bndM_len, bndT_len, List.length_append]
  omega
inductive I_Web_bounds (K : PySem.W.Frag) : Inst
  | mk (w : WebD) (h : WF w) : I_Web_bounds K [.dat (oW K w)] [] (.lst ((bounds w).map e3)) []
inductive I__law_bounds (K : PySem.W.Frag) : Inst
  | mk (w : WebD) (h : WF w) : I__law_bounds K [.dat (eW w)] [] (.lst ((bounds w).map e3)) []
theorem pair_range {many : Int} {b : T3} : True := trivial
structure BndOk (many : Int) (b : T3) : Prop where
  a0 : 0 ≤ b.1
  a1 : b.1 < many
  b0 : 0 ≤ b.2.1
  b1 : b.2.1 < many
  lo : -60 ≤ b.2.2
  hi : b.2.2 ≤ 60
theorem bounds_ok {w : WebD} (h : WF w) : ∀ b ∈ bounds w, BndOk w.many b := by
  intro b hb
  unfold bounds at hb
  have hm := h.m1
  have hl := h.l1
  have hl2 := h.l60
  rcases List.mem_append.mp hb with z | z
  · unfold bndM at z
    obtain ⟨i, hi, hb⟩ := List.mem_flatMap.mp z
    have hi2 := List.mem_range.mp hi
    unfold bndM1 at hb
    rcases List.mem_cons.mp hb with e | e
    · subst e; constructor <;> dsimp only <;> omega
    · have e := List.mem_singleton.mp e
      subst e; constructor <;> dsimp only <;> omega
  · unfold bndT at z
    obtain ⟨t, ht, hb⟩ := List.mem_flatMap.mp z
    have key : PairOk w.many t.1 t.2.1 ∧ t.2.2.1 ≤ t.2.2.2 ∧ -60 ≤ t.2.2.1 ∧ t.2.2.2 ≤ 60 := by
      rcases List.mem_append.mp ht with z | z
      · exact ⟨(h.t t z).p, (h.t t z).le, (h.t t z).lo, (h.t t z).hi⟩
      · have := (h.f t z).lo
        exact ⟨(h.f t z).p, (h.f t z).le, by omega, (h.f t z).hi⟩
    obtain ⟨⟨k1, k2, k3, k4, k5⟩, k6, k7, k8⟩ := key
    unfold bndT1 at hb
    rcases List.mem_cons.mp hb with e | e
    · subst e; constructor <;> dsimp only <;> omega
    · have e := List.mem_singleton.mp e
      subst e; constructor <;> dsimp only <;> omega
end W
namespace W
open PySem L2 DL
inductive I__law_whole (K : PySem.W.Frag) : Inst
  | mk (n : Int) : I__law_whole K [.dat (.int n)] [] (.bl true) []
def keepsB (bs : List T3) (ts : List Int) : Bool := bs.all fun b => decide (ts.getD b.2.1.toNat 0 - ts.getD b.1.toNat 0 ≤ b.2.2)
inductive I__law_keeps (K : PySem.W.Frag) : Inst
  | mk (w : WebD) (h : WF w) (ts : List Int) (hl : (ts.length : Int) = w.many) : I__law_keeps K [.dat (eW w), .dat (.lst (ts.map D.int))] [] (.bl (decide (ts.getD 0 0 = 0) && keepsB (bounds w) ts)) []
theorem keepsB_filter {bs : List T3} {ts : List Int} : ((bs.filter fun b => decide (ts.getD b.2.1.toNat 0 - ts.getD b.1.toNat 0 > b.2.2)).map fun _ => (1 : Int)).isEmpty = keepsB bs ts := by
  unfold keepsB
  induction bs with
  | nil => rfl
  | cons b bs ih =>
    rw [List.filter_cons, List.all_cons]
    by_cases h : ts.getD b.2.1.toNat 0 - ts.getD b.1.toNat 0 > b.2.2
    · rw [if_pos (decide_eq_true h)]
      have e : decide (ts.getD b.2.1.toNat 0 - ts.getD b.1.toNat 0 ≤ b.2.2) = false := decide_eq_false (by omega)
      rw [e]; rfl
    · rw [if_neg (by simpa using h)]
      have e : decide (ts.getD b.2.1.toNat 0 - ts.getD b.1.toNat 0 ≤ b.2.2) = true := decide_eq_true (by omega)
      rw [e, ih]; rfl
end W
set_option Elab.async false
set_option linter.all false
set_option maxRecDepth 100000
set_option maxHeartbeats 4000000
namespace DL
open PySem L2 PyProof.Rows
open Evl (Ex)

/-! ### lists of owned lists -/
def zF (ls : List Addr) (rows : List (List D)) : Fs := List.zipWith (fun l r => (l, FO.own r)) ls rows
theorem zF_mem {ls : List Addr} {rows : List (List D)} {i : Nat} {l : Addr} {r : List D} (h1 : ls[i]? = some l) (h2 : rows[i]? = some r) : (l, FO.own r) ∈ zF ls rows := by
  refine List.mem_of_getElem? (i := i) ?_
  unfold zF
  rw [List.getElem?_zipWith, h1, h2]
theorem zF_ad : ∀ {ls : List Addr} {rows : List (List D)}, ls.length = rows.length → ad (zF ls rows) = ls
  | [], rows, _ => by unfold zF; rfl
  | l :: ls, [], h => by cases h
  | l :: ls, r :: rows, h => by
    have e : zF (l :: ls) (r :: rows) = (l, FO.own r) :: zF ls rows := rfl
    rw [e]
    show l :: ad (zF ls rows) = l :: ls
    rw [zF_ad (by simpa using h)]
theorem chg_app {F R : Fs} {a : Addr} {f : FO} : chg (F ++ R) a f = chg F a f ++ chg R a f := by unfold chg; rw [List.map_append]
theorem chg_zF : ∀ {ls : List Addr} {rows : List (List D)} {i : Nat} {l : Addr} {r : List D}, ls.Nodup → ls.length = rows.length → ls[i]? = some l → chg (zF ls rows) l (.own r) = zF ls (rows.set i r)
  | [], rows, i, l, r, _, _, h => by simp at h
  | m :: ls, [], i, l, r, _, h, _ => by cases h
  | m :: ls, r0 :: rows, 0, l, r, nd, hl, h => by
    have e : m = l := by simpa using h
    subst e
    show chg ((m, FO.own r0) :: zF ls rows) m (.own r) = (m, FO.own r) :: zF ls rows
    rw [chg_eq, chg_out]
    rw [zF_ad (by simpa using hl)]
    exact (List.nodup_cons.mp nd).1
  | m :: ls, r0 :: rows, i + 1, l, r, nd, hl, h => by
    have h2 : ls[i]? = some l := by simpa using h
    have ne : m ≠ l := fun e => (List.nodup_cons.mp nd).1 (by rw [e]; exact List.mem_of_getElem? h2)
    show chg ((m, FO.own r0) :: zF ls rows) l (.own r) = (m, FO.own r0) :: zF ls (rows.set i r)
    rw [chg_ne ne, chg_zF (List.nodup_cons.mp nd).2 (by simpa using hl) h2]

section
variable {Γ : Cn} {es es' : List En} {F F1 F2 R Fd Fd' : Fs} {G H G2 H2 : Hp} {σ : L2.St} {ta te ti tj tl to tv : TE} {t u : TT} {tas : TA} {d : D} {v : V} {b : Bool} {i j k : Nat} {n m lo : Int} {as as' : List En} {ds : List D} {Dn : Ends} {tz tu tw tb : TS} {P : L2.St → Hp → Prop} {K : PySem.W.Frag} {a C l : Addr} {ns : List Str} {f : Str} {ls : List Addr}
theorem atI_map {α β : Type} {f : α → β} {xs : List α} {x : α} {n : Int} (h : atI xs n = some x) : atI (xs.map f) n = some (f x) := by
  unfold atI at h ⊢
  rw [List.length_map]
  cases e : ixN xs.length n with
  | none => rw [e] at h; cases h
  | some j =>
    rw [e] at h
    show (xs.map f)[j]? = _
    have h2 : xs[j]? = some x := h
    rw [List.getElem?_map, h2]; rfl
theorem evv_ixraw (ha : EvV ta es F (.ref a) F1) (hi : EvX ti es F1 (.int n) F2) (hm : (a, FO.raw (.lst (ls.map V.ref))) ∈ F2) (hn : atI ls n = some l) : EvV (tOp (rIxL K) ta ti) es F (.ref l) F2 := ⟨hi.1.trans ha.1, fun G H σ s Q k =>
  ha.2 G H σ s _ fun G1 H1 s1 g1 => hi.2 G1 H1 σ s1 _ fun v G2 H2 s2 g2 r2 => by
    rw [rp_int r2]
    have h1 : H2 a = some (.lst (ls.map V.ref)) := (s2.f.sf _ hm).2
    exact ⟨a, _, n, _, rfl, rfl, .inl (.inl h1), atI_map hn, k G2 H2 s2 (g1.then ha.1 g2)⟩⟩
theorem evx_ixown (ha : EvV ta es F (.ref a) F1) (hi : EvX ti es F1 (.int n) F2) (hm : (a, FO.own ds) ∈ F2) (hn : atI ds n = some d) : EvX (tOp (rIxL K) ta ti) es F d F2 := ⟨hi.1.trans ha.1, fun G H σ s Q k =>
  ha.2 G H σ s _ fun G1 H1 s1 g1 => hi.2 G1 H1 σ s1 _ fun v G2 H2 s2 g2 r2 => by
    rw [rp_int r2]
    obtain ⟨_, xs, h1, h2⟩ := s2.f.sf _ hm
    obtain ⟨w, h3, h4⟩ := atI_rp h2 hn
    exact ⟨a, xs, n, w, rfl, rfl, .inl (.inl h1), h3, k w G2 H2 s2 (g1.then ha.1 g2) h4⟩⟩
/-- l[i] = e -/
theorem go_setC (h : EvX te es F d F1) (ho : EvV ta es F1 (.ref l) F1) (hi : EvX tl es F1 (.int n) F1) (hm : (l, FO.own ds) ∈ F1) (hn : ixN ds.length n = some j)
    (k : Go Γ es (chg F1 l (.own (ds.set j d))) (tz Dn)) : Go Γ es F (tSeq (tAsg te (gSub ta tl rSetL)) tz Dn) := fun G H σ st =>
  h.2 G H σ st.s _ fun v G1 H1 s1 g1 r => ho.2 G1 H1 σ s1 _ fun G2 H2 s2 g2 => hi.2 G2 H2 σ s2 _ fun w G3 H3 s3 g3 r3 => by
    rw [rp_int r3]
    obtain ⟨ga, xs, hx, rx⟩ := s3.f.sf _ hm
    have st3 := ((st.step s1 g1 h.1).step s2 g2 rfl).step s3 g3 rfl
    refine ⟨l, xs, n, j, rfl, rfl, hx, by rw [rx.len]; exact hn, ?_⟩
    exact k G3 _ σ (st3.step ⟨s3.f.putM (f' := .own (ds.set j d)) hm ⟨_, upd_same, RpA.set (r.mono (g2.gg.trans g3.gg)) j rx⟩, s3.se⟩ (gro_put s3.gex ga (mem_adM hm)) ad_putM)

/-! ### a new list of new lists -/
/-- tb a new list of n new lists, each of row -/
structure NewM (G H : Hp) (tb : Addr) (ls : List Addr) (n : Nat) (row : List D) : Prop where
  ln : ls.length = n
  nd : (tb :: ls).Nodup
  tb : G tb = none ∧ H tb = some (.lst (ls.map V.ref))
  ls : ∀ l ∈ ls, G l = none ∧ ∃ xs, H l = some (.lst xs) ∧ RpA G xs row
def EvM (te : TE) (es : List En) (F : Fs) (n : Nat) (row : List D) : Prop := ∀ G H σ, SS es F G H σ → ∀ Q : VK, (∀ tb ls G2 H2, SS es (F ++ (tb, FO.raw (.lst (ls.map V.ref))) :: zF ls (List.replicate n row)) G2 H2 σ → Gro (ad F) G H G2 H2 → (∀ b ∈ tb :: ls, H b = none) → ls.length = n → Q (.ref tb) H2) → te σ H Q
theorem SF.swapT {F A B R : Fs} {G H : Hp} (s : SF (F ++ (A ++ B) ++ R) G H) : SF (F ++ (B ++ A) ++ R) G H := by
  refine ⟨s.gh, fun q hq => s.sf q ?_, ?_⟩
  · simp only [List.mem_append] at hq ⊢
    rcases hq with (z | z | z) | z <;> simp [z]
  · have nd := s.nd
    have p : ((F ++ (B ++ A) ++ R).map (·.1)).Perm ((F ++ (A ++ B) ++ R).map (·.1)) := List.Perm.map _ (List.Perm.append_right _ (List.Perm.append_left _ List.perm_append_comm))
    exact p.nodup_iff.mpr nd
/-- the state within the outer comprehension -/
def LmP (Γ : Cn) (es : List En) (vs : List Nat) (F : Fs) (n : Nat) (row : List D) (Dl : Addr) (σ : L2.St) : Hp → Prop := fun H => ∃ G ls, ls.length = n ∧ (∀ b ∈ ls, Γ.H b = none) ∧ ST Γ (wipeE es vs) (F ++ (Dl, FO.raw (.lst (ls.map V.ref))) :: zF ls (List.replicate n row)) G H (wipe σ vs)
theorem ST.frameN {ds : List D} (ht : EvN te es F ds F1) {Q : VK} (st : ST Γ es (F ++ R) G H σ) (k : ∀ p G2 H2, ST Γ es (F1 ++ R ++ [(p, .own ds)]) G2 H2 σ → H p = none → Q (.ref p) H2) : te σ H Q :=
  ht.2 G H σ ⟨st.s.f.left, st.s.se⟩ Q fun p xs G2 H2 s2 g2 hp gp hq r2 => by
    have e : ad (F1 ++ R) = ad (F ++ R) := by rw [ad_app, ad_app, ht.1]
    have st2 : ST Γ es (F1 ++ R) G2 H2 σ := st.step ⟨SF.keep st.s.f g2 s2.f ht.1, s2.se⟩ (g2.wide fun x hx => by rw [ad_app]; exact List.mem_append_left _ hx) e
    have np : p ∉ ad (F1 ++ R) := fun z => by
      rw [e] at z
      obtain ⟨q, hq, e2⟩ := List.mem_map.mp z
      obtain ⟨o, h2⟩ := (st.s.f.sf q hq).2.some
      rw [e2, hp] at h2
      cases h2
    refine k p G2 H2 ⟨⟨⟨st2.s.f.gh, fun q hq2 => ?_, ?_⟩, st2.s.se⟩, st2.g, fun a ha => ?_, st2.kn⟩ hp
    · rcases List.mem_append.mp hq2 with z | z
      · exact st2.s.f.sf q z
      · have e3 : q = (p, .own ds) := by simpa using z
        subst e3
        exact ⟨gp, xs, hq, r2⟩
    · rw [List.map_append]
      refine List.nodup_append.mpr ⟨st2.s.f.nd, by simp, fun a ha b hb => ?_⟩
      have e3 : b = p := by simpa using hb
      subst e3
      rintro rfl
      exact np ha
    · rw [ad_app] at ha
      rcases List.mem_append.mp ha with z | z
      · exact st2.fr a z
      · have e3 : a = p := by simpa [ad] using z
        subst e3
        exact (nd_free st hp).symm
end
end DL
namespace DL
open PySem L2 PyProof.Rows
open Evl (Ex)
section
variable {Γ : Cn} {es es' : List En} {F F1 F2 R : Fs} {G H G2 H2 : Hp} {σ : L2.St} {te : TE} {tas : TA} {i j k : Nat} {n : Int} {K : PySem.W.Frag} {g : TG} {js vs : List Nat} {row : List D}
theorem st_none (st : ST Γ es F G H σ) {p : Addr} (hp : H p = none) (hS : Γ.S = ad F1) (hsub : ∀ a ∈ ad F1, a ∈ ad F) : Γ.H p = none := by
  rcases nd_free st hp with z | z
  · exact z
  · rw [hS] at z
    obtain ⟨q, hq, e⟩ := List.mem_map.mp (hsub p z)
    obtain ⟨o, h2⟩ := (st.s.f.sf q hq).2.some
    rw [e, hp] at h2
    cases h2
theorem evm_lcR1 (hA : EvA tas es F [.dat (.int n)] F) (hn : n ≤ 1000) (es2 : Nat → List En) (hg : ∀ i : Nat, i < n.toNat → GoG g (.int (i : Int)) js (wipeE es vs) (es2 i)) (hj : ∀ j ∈ js, j ∈ vs)
    (h : ∀ i : Nat, i < n.toNat → EvN te (es2 i) F row F) (hl : -1000000000 ≤ n := by omega) : EvM (tLc (iRng1 tas) g tYes te vs) es F n.toNat row := fun G H σ s Q k =>
  hA.2 G H σ s _ fun us G1 H1 s1 g1 r1 => ⟨n, ao_int r1, by omega, by omega, fun Dl hD => by
    refine lc_range (lo := 0) (n := n.toNat) (fun i H' => LmP ⟨ad F, G1, H1, []⟩ es vs F i row Dl σ H') ?_ (fun i H' hi ⟨G', ls, hls, hfr, st'⟩ => ?_) (fun H' ⟨G', ls, hls, hfr, st'⟩ => ?_)
    · refine ⟨G1, [], rfl, fun b hb => by simp at hb, ⟨s1.f.newOwn hD (f := .raw (.lst [])) upd_same, s1.se.wipe vs⟩, gro_laid s1.gex hD, fun a ha => ?_, fun p hp => (by cases hp)⟩
      rw [ad_app] at ha
      rcases List.mem_append.mp ha with z | z
      · exact .inl z
      · have e : a = Dl := by simpa [ad, zF] using z
        subst e
        exact .inr hD
    · rw [Int.zero_add]
      refine (hg i hi).2 _ _ _ G' H' _ _ st' (.int _) fun σ2 a2 st2 => ?_
      have ew := wipe_only a2 hj
      have hw := wipeE_only (hg i hi).1 hj
      refine ⟨ew, ?_⟩
      refine ST.frameN (h i hi) st2 fun p G2 H2 st3 hp => ?_
      have hpn : H1 p = none := st_none (F1 := F) st2 hp rfl (fun a ha => by rw [ad_app]; exact List.mem_append_left _ ha)
      have hm : (Dl, FO.raw (.lst (ls.map V.ref))) ∈ F ++ (Dl, FO.raw (.lst (ls.map V.ref))) :: zF ls (List.replicate i row) ++ [(p, FO.own row)] := by simp
      obtain ⟨ga, hx⟩ := st3.s.f.sf _ hm
      have hll : (ls.map V.ref).length < sizeLine := by rw [List.length_map]; exact Evl.sz_lt (by omega)
      refine ⟨_, hx, hll, G2, ls ++ [p], by rw [List.length_append, hls]; rfl, fun b hb => ?_, ?_⟩
      · rcases List.mem_append.mp hb with z | z
        · exact hfr b z
        · have e : b = p := by simpa using z
          rw [e]; exact hpn
      · have e0 : (ls ++ [p]).map V.ref = ls.map V.ref ++ [V.ref p] := by rw [List.map_append]; rfl
        have sf4 := st3.s.f.putM (f' := .raw (.lst ((ls ++ [p]).map V.ref))) (o := .lst (ls.map V.ref ++ [V.ref p])) hm (by rw [e0]; exact upd_same)
        have st4 := st3.step ⟨sf4, st3.s.se⟩ (gro_put st3.s.gex ga (mem_adM hm)) ad_putM
        have e1 : F ++ (Dl, FO.raw (.lst (ls.map V.ref))) :: zF ls (List.replicate i row) ++ [(p, FO.own row)] = F ++ (Dl, FO.raw (.lst (ls.map V.ref))) :: (zF ls (List.replicate i row) ++ [(p, FO.own row)]) := by simp
        have e2 : zF ls (List.replicate i row) ++ [(p, FO.own row)] = zF (ls ++ [p]) (List.replicate (i + 1) row) := by
          unfold zF
          rw [List.replicate_succ', List.zipWith_append (by rw [hls, List.length_replicate])]
          rfl
        have nd3 := st3.s.f.nd
        rw [e1] at st4 nd3
        rw [chg_split nd3, e2] at st4
        refine ⟨⟨st4.s.f, ?_⟩, st4.g, st4.fr, st4.kn⟩
        rw [← ew, ← hw]
        exact st4.s.se.wipe vs
    · refine k Dl ls G' H' ?_ (g1.then rfl st'.g) (fun b hb => ?_) hls
      · have e : List.replicate n.toNat row = List.replicate n.toNat row := rfl
        exact ⟨st'.s.f, s.se.mono (g1.gg.trans st'.g.gg)⟩
      · rcases List.mem_cons.mp hb with z | z
        · rw [z]; exact fresh0 s s1 g1 rfl hD
        · exact fresh0 s s1 g1 rfl (hfr b z)⟩
/-- self.f = [[..]..] -/
theorem go_sfldM {te to : TE} {a C : Addr} {ns : List Str} {as : List En} {f : Str} {n : Nat} {Dn : Ends} {tz : TS} (hv : EvM te es F n row) (ho : ∀ F', EvV to es F' (.ref a) F') (hm : (a, FO.obj C ns as) ∈ F) (hc : Cls K C) (hn : NoAttr K C f) (hl : ns.length < 1000)
    (kk : ∀ tb ls, ls.length = n → (tb :: ls).Nodup → Go Γ es (chg F a (.obj C (putE f (.val (.ref tb)) ns as).1 (putE f (.val (.ref tb)) ns as).2) ++ (tb, FO.raw (.lst (ls.map V.ref))) :: zF ls (List.replicate n row)) (tz Dn)) : Go Γ es F (tSeq (sFld K to te f) tz Dn) := fun G H σ st =>
  hv G H σ st.s _ fun tb ls G1 H1 s1 g1 hfr hls => (ho _).2 G1 H1 σ s1 _ fun G2 H2 s2 g2 => by
    have hm2 : (a, FO.obj C ns as) ∈ F ++ (tb, FO.raw (.lst (ls.map V.ref))) :: zF ls (List.replicate n row) := List.mem_append_left _ hm
    obtain ⟨ga, dx, fs, h1, h2, h3⟩ := s2.f.sf _ hm2
    subst h2
    refine ⟨a, C, dx, fs, rfl, h1, hc, hn, by rw [List.length_map] at hl; exact hl, ?_⟩
    obtain ⟨p1, p2⟩ := putE_ok (f := f) (e := .val (.ref tb)) .val h3
    have nd2 := s2.f.nd
    have hzf : ad (zF ls (List.replicate n row)) = ls := zF_ad (by rw [hls, List.length_replicate])
    have ndx : (tb :: ls).Nodup := by
      rw [List.map_append, List.map_cons] at nd2
      have z := (List.nodup_append.mp nd2).2.1
      have e : (zF ls (List.replicate n row)).map (fun q => q.1) = ls := hzf
      rw [e] at z
      exact z
    have frA : ∀ b ∈ tb :: ls, b ∈ Γ.S ∨ Γ.H b = none := fun b hb => (nd_free st (hfr b hb)).symm
    have gw : Gro Γ.S Γ.G Γ.H G2 H2 := (st.g.trans g1 st.fr).trans g2 (fun x hx => by
      rw [ad_app] at hx
      rcases List.mem_append.mp hx with z | z
      · exact st.fr x z
      · have z2 : x ∈ tb :: ls := by
          have e : ad ((tb, FO.raw (.lst (ls.map V.ref))) :: zF ls (List.replicate n row)) = tb :: ad (zF ls (List.replicate n row)) := rfl
          rw [e, hzf] at z
          exact z
        exact frA x z2)
    have haS : a ∈ Γ.S ∨ Γ.H a = none := st.fr a (mem_adM hm)
    have gp : Gro [a] G2 H2 G2 (upd H2 a (.ins C dx (putF f (.ref tb) fs))) := gro_put s2.gex ga List.mem_cons_self
    have ndA : a ∉ ad ((tb, FO.raw (.lst (ls.map V.ref))) :: zF ls (List.replicate n row)) := fun z => by
      have z2 := (List.nodup_append.mp (by rw [List.map_append] at nd2; exact nd2)).2.2 a (mem_adM hm) a z
      exact z2 rfl
    have ek := kk tb ls hls ndx
    have e5 : chg (F ++ (tb, FO.raw (.lst (ls.map V.ref))) :: zF ls (List.replicate n row)) a (.obj C (putE f (.val (.ref tb)) (fs.map (·.1)) as).1 (putE f (.val (.ref tb)) (fs.map (·.1)) as).2) = chg F a (.obj C (putE f (.val (.ref tb)) (fs.map (·.1)) as).1 (putE f (.val (.ref tb)) (fs.map (·.1)) as).2) ++ (tb, FO.raw (.lst (ls.map V.ref))) :: zF ls (List.replicate n row) := by
      rw [chg_app, chg_out ndA]
    rw [← e5] at ek
    refine ek G2 _ σ ⟨⟨s2.f.putM (f' := .obj C _ _) hm2 ⟨dx, _, upd_same, p1, p2⟩, s2.se⟩, gw.trans gp (fun x hx => ?_), fun x hx => ?_, fun p hp => ⟨(g1.gg.trans g2.gg) _ _ (st.kn p hp).1, (st.kn p hp).2.mono (g1.gg.trans g2.gg)⟩⟩
    · have e : x = a := by simpa using hx
      rw [e]; exact haS
    · rw [ad_putM, ad_app] at hx
      rcases List.mem_append.mp hx with z | z
      · exact st.fr x z
      · have z2 : x ∈ tb :: ls := by
          have e : ad ((tb, FO.raw (.lst (ls.map V.ref))) :: zF ls (List.replicate n row)) = tb :: ad (zF ls (List.replicate n row)) := rfl
          rw [e, hzf] at z
          exact z
        exact frA x z2
end
end DL
namespace DL
open PySem L2 PyProof.Rows
open Evl (Ex)
/-! ### freezing a list of lists -/
theorem SF.delZ : ∀ {ls : List Addr} {rows : List (List D)} {F R : Fs} {G H : Hp}, ls.length = rows.length → SF (F ++ (zF ls rows ++ R)) G H →
    ∃ G2, SF (F ++ R) G2 H ∧ Ex G G2 ∧ (∀ a, a ∉ ls → G2 a = G a) ∧ RpA G2 (ls.map V.ref) (rows.map D.lst)
  | [], rows, F, R, G, H, hl, s => by
    have e : rows = [] := List.length_eq_zero_iff.mp hl.symm
    subst e
    exact ⟨G, s, Evl.Ex.refl G, fun _ _ => rfl, .nil⟩
  | l :: ls, [], F, R, G, H, hl, s => by cases hl
  | l :: ls, r :: rows, F, R, G, H, hl, s => by
    have s0 : SF (F ++ (l, FO.own r) :: (zF ls rows ++ R)) G H := s
    obtain ⟨_, xs, h1, h2⟩ := s0.sf (l, .own r) (List.mem_append_right _ List.mem_cons_self)
    obtain ⟨s1, e1⟩ := s0.del h1
    obtain ⟨G2, s2, e2, fr2, r2⟩ := SF.delZ (by simpa using hl) s1
    refine ⟨G2, s2, e1.trans e2, fun a ha => ?_, .cons (.lst (e2 _ _ upd_same) ((h2.mono e1).mono e2)) r2⟩
    rw [fr2 a (fun z => ha (List.mem_cons_of_mem _ z)), upd_ne (fun z => ha (by rw [z]; exact List.mem_cons_self))]

/-! ### exceptions -/
inductive Out where
  | ret (r : D)
  | exc (C : Addr) (ns : List Str) (ds : List D)
abbrev InstE := List En → Fs → Out → Fs → Prop
/-- what is wanted of an exception: of the class at C, its dict frozen -/
def RetX (S : List Addr) (G H : Hp) (F' : Fs) (C : Addr) (ns : List Str) (ds : List D) (E : XK) : Prop := ∀ dx fs G2 H2, SF F' G2 H2 → Gro S G H G2 H2 → G2 dx = some (.xd fs) → fs.map (·.1) = ns → RpA G2 (fs.map (·.2)) ds → E (.ref C) (some dx) H2
def spE (I : InstE) : Sp := fun vs H Q E => ∃ as F o F' G, I as F o F' ∧ AO G vs as ∧ SF F G H ∧ (∀ r, o = .ret r → ∀ v G2 H2, SF F' G2 H2 → Gro (ad F) G H G2 H2 → Rp G2 v r → Q v H2) ∧ (∀ C ns ds, o = .exc C ns ds → RetX (ad F) G H F' C ns ds E)
def EvE (te : TE) (es : List En) (F : Fs) (C : Addr) (ns : List Str) (ds : List D) (F' : Fs) (W : WX) : Prop := ad F' = ad F ∧ ∀ G H σ, SS es F G H σ → ∀ Q : VK, (∀ dx fs G2 H2, SS es F' G2 H2 σ → Gro (ad F) G H G2 H2 → G2 dx = some (.xd fs) → fs.map (·.1) = ns → RpA G2 (fs.map (·.2)) ds → W (.ref C) (some dx) σ H2) → te σ H Q
section
variable {Γ : Cn} {es es' : List En} {F F1 F2 R Fd Fd' : Fs} {G H G2 H2 : Hp} {σ : L2.St} {ta te tb to tv : TE} {tas : TA} {d d1 d2 : D} {v : V} {i j k : Nat} {n m lo : Int} {as as' : List En} {ds : List D} {Dn : Ends} {tz tu tw : TS} {K : PySem.W.Frag} {a C Ca : Addr} {ns : List Str} {r2 : R2} {W : WX}
theorem evx_callE {I : InstE} {r : D} {E : L2.St → XK} (ha : EvA tas es F as (Fd ++ R)) (hI : I as Fd (.ret r) Fd') (he : ad Fd' = ad Fd) : EvX (tCallS (spE I) E tas) es F r (Fd' ++ R) := ⟨by
    rw [← ha.1]; unfold ad at he ⊢; rw [List.map_append, List.map_append, he], fun G H σ s Q k =>
  ha.2 G H σ s _ fun vs G1 H1 s1 g1 r1 => by
    refine ⟨as, Fd, .ret r, Fd', G1, hI, r1, s1.f.left, fun r' er v G2 H2 s2 g2 r2 => ?_, fun _ _ _ e => (by cases e)⟩
    cases er
    have g3 : Gro (ad (Fd ++ R)) G1 H1 G2 H2 := g2.wide fun x hx => by unfold ad at hx ⊢; rw [List.map_append]; exact List.mem_append_left _ hx
    exact k v G2 H2 ⟨SF.keep s1.f g2 s2 he, s1.se.mono g2.gg⟩ (g1.then ha.1 g3) r2⟩
theorem evx_callE0 {I : InstE} {r : D} {E : L2.St → XK} (ha : EvA tas es F as F1) (hI : I as [] (.ret r) []) : EvX (tCallS (spE I) E tas) es F r F1 := evx_callE (Fd := []) (Fd' := []) ha hI rfl
theorem eve_callE {I : InstE} (ha : EvA tas es F as (Fd ++ R)) (hI : I as Fd (.exc C ns ds) Fd') (he : ad Fd' = ad Fd) : EvE (tCallS (spE I) (WE W) tas) es F C ns ds (Fd' ++ R) W := ⟨by
    rw [← ha.1]; unfold ad at he ⊢; rw [List.map_append, List.map_append, he], fun G H σ s Q k =>
  ha.2 G H σ s _ fun vs G1 H1 s1 g1 r1 => by
    refine ⟨as, Fd, .exc C ns ds, Fd', G1, hI, r1, s1.f.left, fun _ e => (by cases e), fun C' ns' ds' e dx fs G2 H2 s2 g2 hd hn hr => ?_⟩
    cases e
    have g3 : Gro (ad (Fd ++ R)) G1 H1 G2 H2 := g2.wide fun x hx => by unfold ad at hx ⊢; rw [List.map_append]; exact List.mem_append_left _ hx
    exact k dx fs G2 H2 ⟨SF.keep s1.f g2 s2 he, s1.se.mono g2.gg⟩ (g1.then ha.1 g3) hd hn hr⟩
theorem eve_callE0 {I : InstE} (ha : EvA tas es F as F1) (hI : I as [] (.exc C ns ds) []) : EvE (tCallS (spE I) (WE W) tas) es F C ns ds F1 W := eve_callE (Fd := []) (Fd' := []) ha hI rfl
/-- .. a method of an owned object; E the def's own -/
theorem evx_methE {I : InstE} {r : D} {E : XK} {mn : Str} (ho : EvV ta es F (.ref a) F1) (hm : (a, FO.obj Ca ns as') ∈ F1) (hn : mn ∉ ns) (ha : EvA tas es F1 as (Fd ++ R)) (hI : I (.val (.ref a) :: as) Fd (.ret r) Fd') (he : ad Fd' = ad Fd) :
    EvX (tMeth Ca mn (spE I) [] E ta tas) es F r (Fd' ++ R) :=
  ⟨by rw [← ho.1, ← ha.1, ad_app, ad_app, he], fun G H σ s Q k => ho.2 G H σ s _ fun G1 H1 s1 g1 => by
    obtain ⟨ga, dx, fs, h1, h2, h3⟩ := s1.f.sf _ hm
    subst h2
    refine ⟨a, dx, fs, rfl, h1, lookup_no hn, ?_⟩
    refine ha.2 G1 H1 σ s1 _ fun vs G2 H2 s2 g2 r2 => ?_
    rw [List.append_nil]
    refine ⟨_, Fd, .ret r, Fd', G2, hI, .val r2, s2.f.left, fun r' er v G3 H3 s3 g3 r3 => ?_, fun _ _ _ e => (by cases e)⟩
    cases er
    have g4 : Gro (ad (Fd ++ R)) G2 H2 G3 H3 := g3.wide fun x hx => by rw [ad_app]; exact List.mem_append_left _ hx
    exact k v G3 H3 ⟨SF.keep s2.f g3 s3 he, s2.se.mono g3.gg⟩ ((g1.then ho.1 g2).then (ha.1.trans ho.1) g4) r3⟩
theorem eve_methE {I : InstE} {E : XK} {mn : Str} {nx : List Str} (ho : EvV ta es F (.ref a) F1) (hm : (a, FO.obj Ca ns as') ∈ F1) (hn : mn ∉ ns) (ha : EvA tas es F1 as (Fd ++ R)) (hI : I (.val (.ref a) :: as) Fd (.exc C nx ds) Fd') (he : ad Fd' = ad Fd) :
    EvE (tMeth Ca mn (spE I) [] E ta tas) es F C nx ds (Fd' ++ R) (fun c d _ H => E c d H) :=
  ⟨by rw [← ho.1, ← ha.1, ad_app, ad_app, he], fun G H σ s Q k => ho.2 G H σ s _ fun G1 H1 s1 g1 => by
    obtain ⟨ga, dx, fs, h1, h2, h3⟩ := s1.f.sf _ hm
    subst h2
    refine ⟨a, dx, fs, rfl, h1, lookup_no hn, ?_⟩
    refine ha.2 G1 H1 σ s1 _ fun vs G2 H2 s2 g2 r2 => ?_
    rw [List.append_nil]
    refine ⟨_, Fd, .exc C nx ds, Fd', G2, hI, .val r2, s2.f.left, fun _ e => (by cases e), fun C' ns' ds' e dx' fs' G3 H3 s3 g3 hd hn' hr => ?_⟩
    cases e
    have g4 : Gro (ad (Fd ++ R)) G2 H2 G3 H3 := g3.wide fun x hx => by rw [ad_app]; exact List.mem_append_left _ hx
    exact k dx' fs' G3 H3 ⟨SF.keep s2.f g3 s3 he, s2.se.mono g3.gg⟩ ((g1.then ho.1 g2).then (ha.1.trans ho.1) g4) hd hn' hr⟩
/-! an exception on its way through an expression -/
theorem eve_op1 (h : EvE ta es F C ns ds F1 W) : EvE (tOp r2 ta tb) es F C ns ds F1 W := ⟨h.1, fun G H σ s Q k => h.2 G H σ s _ k⟩
theorem eve_op2 (h1 : EvX ta es F d F1) (h : EvE tb es F1 C ns ds F2 W) : EvE (tOp r2 ta tb) es F C ns ds F2 W := ⟨h.1.trans h1.1, fun G H σ s Q k => h1.2 G H σ s _ fun v1 G1 H1 s1 g1 _ => h.2 G1 H1 σ s1 _ fun dx fs G2 H2 s2 g2 => k dx fs G2 H2 s2 (g1.then h1.1 g2)⟩
theorem eve_fld {f : Str} (h : EvE ta es F C ns ds F1 W) : EvE (tFld K ta f) es F C ns ds F1 W := ⟨h.1, fun G H σ s Q k => h.2 G H σ s _ k⟩
def EvAE (ta : TA) (es : List En) (F : Fs) (C : Addr) (ns : List Str) (ds : List D) (F' : Fs) (W : WX) : Prop := ad F' = ad F ∧ ∀ G H σ, SS es F G H σ → ∀ Q : List V → Hp → Prop, (∀ dx fs G2 H2, SS es F' G2 H2 σ → Gro (ad F) G H G2 H2 → G2 dx = some (.xd fs) → fs.map (·.1) = ns → RpA G2 (fs.map (·.2)) ds → W (.ref C) (some dx) σ H2) → ta σ H Q
theorem evae_1 {tr : TA} (h : EvE ta es F C ns ds F1 W) : EvAE (tCons ta tr) es F C ns ds F1 W := ⟨h.1, fun G H σ s Q k => h.2 G H σ s _ k⟩
theorem evae_2 {tr : TA} (h1 : EvX ta es F d F1) (h : EvAE tr es F1 C ns ds F2 W) : EvAE (tCons ta tr) es F C ns ds F2 W := ⟨h.1.trans h1.1, fun G H σ s Q k => h1.2 G H σ s _ fun v1 G1 H1 s1 g1 _ => h.2 G1 H1 σ s1 _ fun dx fs G2 H2 s2 g2 => k dx fs G2 H2 s2 (g1.then h1.1 g2)⟩
theorem eve_cb {r : List V → Hp → VK → Prop} (h : EvAE tas es F C ns ds F1 W) : EvE (tCB r tas) es F C ns ds F1 W := ⟨h.1, fun G H σ s Q k => h.2 G H σ s _ k⟩
/-- .. out of a statement -/
def GoX (Γ : Cn) (es : List En) (F' : Fs) (C : Addr) (ns : List Str) (ds : List D) (W : WX) : Prop := ∀ dx fs G H σ, ST Γ es F' G H σ → G dx = some (.xd fs) → fs.map (·.1) = ns → RpA G (fs.map (·.2)) ds → W (.ref C) (some dx) σ H
theorem go_asgE {g : TG} (h : EvE te es F C ns ds F1 W) (k : GoX Γ es F1 C ns ds W) : Go Γ es F (tSeq (tAsg te g) tz Dn) := fun G H σ st => h.2 G H σ st.s _ fun dx fs G2 H2 s2 g2 hd hn hr => k dx fs G2 H2 σ (st.step s2 g2 h.1) hd hn hr
theorem go_dropE (h : EvE te es F C ns ds F1 W) (k : GoX Γ es F1 C ns ds W) : Go Γ es F (tSeq (tDrop te) tz Dn) := fun G H σ st => h.2 G H σ st.s _ fun dx fs G2 H2 s2 g2 hd hn hr => k dx fs G2 H2 σ (st.step s2 g2 h.1) hd hn hr
theorem go_retE (h : EvE te es F C ns ds F1 W) (k : GoX Γ es F1 C ns ds W) : Go Γ es F (tSeq (tRet te) tz Dn) := fun G H σ st => h.2 G H σ st.s _ fun dx fs G2 H2 s2 g2 hd hn hr => k dx fs G2 H2 σ (st.step s2 g2 h.1) hd hn hr
/-- .. out of the def -/
theorem gox_ret {F' : Fs} {E : XK} (h : RetX Γ.S Γ.G Γ.H F' C ns ds E) : GoX Γ es (F' ++ R) C ns ds (fun c d _ H => E c d H) := fun dx fs G H σ st hd hn hr => h dx fs G H st.s.f.left st.g hd hn hr
theorem gox_ret0 {F' : Fs} {E : XK} (h : RetX Γ.S Γ.G Γ.H F' C ns ds E) : GoX Γ es F' C ns ds (fun c d _ H => E c d H) := fun dx fs G H σ st hd hn hr => h dx fs G H st.s.f st.g hd hn hr
end
end DL
set_option Elab.async false
set_option linter.all false
set_option maxRecDepth 100000
set_option maxHeartbeats 4000000
namespace DL
open PySem PySem.Spec L2 PyProof.Rows
open Evl (Ex)
/-! ### loops that know more, or that are left by an exception -/
def InvQ (p : Prop) (Γ : Cn) (es : List En) (F : Fs) : L2.St → Hp → Prop := fun σ H => p ∧ InvP Γ es F σ H
section
variable {Γ : Cn} {es es' : List En} {F F1 F2 R : Fs} {G H G2 H2 : Hp} {σ : L2.St} {te tl : TE} {tas : TA} {d : D} {i j k : Nat} {n m lo : Int} {ds : List D} {Dn : Ends} {tz tb : TS} {K : PySem.W.Frag} {g : TG} {js : List Nat}
theorem go_invQ {p : Prop} (hp : p) (c : Cov es es') : Go Γ es F (InvQ p Γ es' F) := fun G H σ st => ⟨hp, G, st.cov c⟩
theorem go_forR1Q (h : EvA tas es F [.dat (.int n)] F1) (hn : n ≤ 1000000000) (p : Nat → Prop) (ie : Nat → List En) (iF : Nat → Fs) (h0 : Go Γ es F1 (InvQ (p 0) Γ (ie 0) (iF 0)))
    (hs : ∀ i : Nat, (i : Int) < n → p i → Go Γ ((ie i).set j (.dat (.int (i : Int)))) (iF i) (tb { Dn with nx := InvQ (p (i + 1)) Γ (ie (i + 1)) (iF (i + 1)), ct := InvQ (p (i + 1)) Γ (ie (i + 1)) (iF (i + 1)), bk := tz Dn }))
    (hd : p n.toNat → Go Γ (ie n.toNat) (iF n.toNat) (tz Dn)) (hl : -1000000000 ≤ n := by omega) : Go Γ es F (tSeq (tFor (iRng1 tas) (gName j) tb) tz Dn) := fun G H σ st =>
  h.2 G H σ st.s _ fun vs G1 H1 s1 g1 r1 => ⟨n, ao_int r1, by omega, by omega,
    for_range (lo := 0) (n := n.toNat) (fun i σ H => InvQ (p i) Γ (ie i) (iF i) σ H) (h0 G1 H1 σ (st.step s1 g1 h.1)) (fun i σ' H' hi ⟨hp, G', st'⟩ => by
      have e : (0 : Int) + (i : Int) = (i : Int) := Int.zero_add _
      show tb _ (σ'.set j (some (.int (0 + (i : Int))))) H'
      rw [e]
      exact hs i (by omega) hp G' H' _ (st'.set (.int _) j)) (fun σ' H' ⟨hp, G', st'⟩ => hd hp G' H' σ' st')⟩
theorem go_forLQ (h : EvX tl es F (.lst ds) F1) (p : Nat → Prop) (ie : Nat → List En) (iF : Nat → Fs) (es1 : Nat → List En) (hg : ∀ i d, ds[i]? = some d → GoG g d js (ie i) (es1 i)) (h0 : ∀ Kn, Go { Γ with K := Kn } es F1 (InvQ (p 0) { Γ with K := Kn } (ie 0) (iF 0)))
    (hs : ∀ i d, ds[i]? = some d → p i → ∀ Kn, Go { Γ with K := Kn } (es1 i) (iF i) (tb { Dn with nx := InvQ (p (i + 1)) { Γ with K := Kn } (ie (i + 1)) (iF (i + 1)), ct := InvQ (p (i + 1)) { Γ with K := Kn } (ie (i + 1)) (iF (i + 1)), bk := tz Dn }))
    (hd : p ds.length → Go Γ (ie ds.length) (iF ds.length) (tz Dn)) : Go Γ es F (tSeq (tFor (iList K tl) g tb) tz Dn) := fun G H σ st =>
  h.2 G H σ st.s _ fun v G1 H1 s1 g1 r1 => by
    obtain ⟨a, xs, rfl, h1, h2⟩ := rp_lst r1
    refine ⟨a, rfl, ⟨xs, .inl (.inl (s1.gex _ _ h1))⟩, for_list (K := K) (a := a) (xs := xs) (fun i σ H => InvQ (p i) (Γ.know a xs ds) (ie i) (iF i) σ H) ?_ (fun i σ' H' _ ⟨_, G', st'⟩ => .inl (.inl (st'.s.gex _ _ (st'.kn _ List.mem_cons_self).1))) (fun i x σ' H' hi ⟨hp, G', st'⟩ => ?_) (fun σ' H' ⟨hp, G', st'⟩ => ?_)⟩
    · exact h0 ((a, xs, ds) :: Γ.K) G1 H1 σ ((st.step s1 g1 h.1).know h1 h2)
    · obtain ⟨d, hd1, hd2⟩ := (st'.kn _ List.mem_cons_self).2.getV hi
      exact (hg i d hd1).2 (Γ.know a xs ds) (iF i) x G' H' σ' _ st' hd2 fun σ2 _ st2 => hs i d hd1 hp ((a, xs, ds) :: Γ.K) G' H' σ2 st2
    · rw [h2.len] at st' hp
      exact hd hp G' H' σ' st'.unknow
end
/-! ### an own exception is made -/
/-- C.__init__(self, x): the field f -/
def sp1 (C : Addr) (f : Str) : Sp := fun vs H Q _ => ∃ (a : Addr) (v : V), vs = [.ref a, v] ∧ H a = some (exo a C none) ∧ ∀ d, H d = none → d ≠ a → Q .non (upd (upd H d (exd d [(f, v)])) a (exo a C (some d)))
theorem xd_heap {H1 : Hp} {a d C : Addr} {fs : List (Str × V)} (ha : H1 a = none) (hd : d ≠ a) : upd (L2.del (upd (upd (upd H1 a (exo a C none)) d (exd d fs)) a (exo a C (some d))) a) d (.xd fs) = upd H1 d (.xd fs) := by
  funext b
  by_cases h1 : b = d
  · subst h1; rw [upd_same, upd_same]
  · rw [upd_ne h1, upd_ne h1]
    by_cases h2 : b = a
    · subst h2; rw [del_same, ha]
    · rw [del_ne h2, upd_ne h2, upd_ne h1, upd_ne h2]
section
variable {Γ : Cn} {es : List En} {F F1 : Fs} {te : TE} {d : D} {C : Addr} {f : Str} {Dn : Ends} {tz : TS} {W : WX}
theorem go_raise1 (h : EvX te es F d F1) (k : GoX Γ es F1 C [f] [d] W) : Go Γ es F (tSeq (fun _ σ H => tMkO C (sp1 C f) [] (tCons te tNil) σ H fun cls d H' => W cls d σ H') tz Dn) := fun G H σ st =>
  h.2 G H σ st.s _ fun v G1 H1 s1 g1 r1 => by
    refine ⟨by simp, fun a ha => ?_⟩
    refine ⟨a, v, rfl, upd_same, fun dx hdx ne => ⟨rfl, dx, [(f, v)], upd_same, ?_, ?_, ?_⟩⟩
    · rw [upd_ne ne, upd_same]
    · rw [upd_ne ne] at hdx; exact hdx
    · rw [upd_ne ne] at hdx
      rw [xd_heap ha ne]
      have st1 := st.step s1 g1 h.1
      have g2 : Gro (ad F1) G1 H1 (upd G1 dx (.xd [(f, v)])) (upd H1 dx (.xd [(f, v)])) := gro_new s1.gex hdx
      exact k dx _ _ _ σ (st1.step ⟨s1.f.new hdx, s1.se.mono g2.gg⟩ g2 rfl) upd_same rfl (.cons (r1.mono g2.gg) .nil)
end
section
variable {X : Cx} {e : Expr} {es : List Expr} {ta : TA} {x : Str} {p1 p2 pos : Pos} {ME : Addr} {mc : Value}
/-- what the class at ME (no __init__ of its own, over ValueError) must say, so that ME.__init__(self, ..) is ValueError's -/
structure BaseI (K : PySem.W.Frag) (ME : Addr) (mc : Value) : Prop where
  ga : PySem.W.specialIn K (.ref ME) "__getattribute__" = some (some (.builtin "type.__getattribute__"))
  tm : PySem.W.typeIn K (.ref ME) = some mc
  rd : PySem.W.readsIn K ME mc = true
  vi : PySem.W.findCls K (.ref ME) mc "__init__" = some (.val (.builtin "ValueError.__init__"))
theorem pe_meinit {pl : Sem Bool} (hg : Gl X x) (hm : X.mg x = some (.ref ME)) (B : BaseI X.K ME mc) (ha : PA X (e :: es) ta)
    (hdb : (x == ("__debug__" : Str)) = false := by decide)
    (hc : eval (.Call (.Attribute (.Name x p1) "__init__" p2) (e :: es) [] pos) X.env = (do
      let ov ← eval (.Name x p1) X.env
      standAt p2.atName
      let (f, first) ← holding [ov] (getMethod ov "__init__" pl)
      callWith pos f first (backTo pos (starEach (e :: es) X.env)) (backToKw pos (keywordEach [] X.env))) := by rfl)
    (he : starEach (e :: es) X.env = (false, eval e X.env) :: starEach es X.env := by rfl) (hpl : (backTo pos (starEach es X.env)).any (·.1) = false := by rfl) :
    PE X (.Call (.Attribute (.Name x p1) "__init__" p2) (e :: es) [] pos) (tVeI X.K ta) := by
  refine ⟨fun pins s σ H Q I h => ?_⟩
  refine PySem.W.methodCall_KW (ld_glob I hg hm ?_ hdb) hc
  obtain ⟨m, fr⟩ := I.fr
  refine PySem.W.method_of_cls fr I.ok.mod.kin B.ga ?_
  refine PySem.W.cls_val fr I.ok.mod.kin B.tm B.rd B.vi (by decide +kernel) ?_
  show wpAny _ _ (callWith pos (Value.builtin "ValueError.__init__") [] (backTo pos (starEach (e :: es) X.env)) []) _ _ _
  refine PyProof.Rows.callWith_method1 (thn (ha.run pos pins _ σ H _ (I.tok _) h) fun us s1 ⟨vs, H1, I1, r1, a, C, ws, ev, hl, T, ea, q⟩ => ?_) he hpl
  subst ev
  cases r1 with
  | @cons _ u0 _ ur ra rw' =>
    obtain rfl : u0 = Value.ref a := ra
    have hlen : ur.length ≤ sizeLine := by
      rw [← Paired.length rw', sizeLine_eq]
      omega
    exact oinit_ok T I1 ea hlen fun s' J => ⟨.non, H1, J, rfl, q⟩
end
end DL
namespace DL
open PySem PySem.Spec L2 PyProof.Rows
open Evl (Ex)
section
variable {X : Cx} {k j : Nat} {C : Addr} {x m : Str} {sp : Sp} {p pos apos : Pos} {e o : Expr} {es : List Expr} {ta : TE} {t : TA} {W : WX} {E : XK}
theorem pe_cX (c : Cal X.prog X.w X.K X.mg X.base (L2.CX X.prog X.w) k x sp) (hr : Room j X.A) (hk : k ≤ j) (hg : Gl X x) (tk : Takes X W) (ha : PA X (e :: es) t)
    (hdb : (x == ("__debug__" : Str)) = false := by decide) (he : starEach (e :: es) X.env = (false, eval e X.env) :: starEach es X.env := by rfl) (hpl : (backTo pos (starEach es X.env)).any (·.1) = false := by rfl) :
    PE X (.Call (.Name x p) (e :: es) [] pos) (tCallS sp (WE W) t) := by
  obtain ⟨f, fd, ps, F, hm, kp, b⟩ := c.ex
  exact pe_callS F (hr.mono hk) hg hm kp b (passAt tk) ha hdb he hpl
theorem pe_mkX (c : Mak X.prog X.w X.K X.mg X.base (L2.CX X.prog X.w) k x C sp) (hr : Room j X.A) (hk : k + 1 ≤ j) (hg : Gl X x) (tk : Takes X (fun cls d _ H => E cls d H)) (ha : PA X (e :: es) t)
    (hdb : (x == ("__debug__" : Str)) = false := by decide) (he : starEach (e :: es) X.env = (false, eval e X.env) :: starEach es X.env := by rfl) (hpl : (backTo pos (starEach es X.env)).any (·.1) = false := by rfl) :
    PE X (.Call (.Name x p) (e :: es) [] pos) (tMake C sp [] E t) := by
  obtain ⟨f, fd, ps, M, F, hm, b⟩ := c.ex
  exact pe_make M F (hr.mono hk) hg hm b .nil (passes_call tk fun _ _ _ _ h => h) ha hdb he hpl
theorem pe_mtX {pl : Sem Bool} (c : Met X.prog X.w X.K X.mg X.base (L2.CX X.prog X.w) k C m sp) (hr : Room j X.A) (hk : k ≤ j) (tk : Takes X (fun cls d _ H => E cls d H)) (he : PE X o ta) (ha : PA X (e :: es) t)
    (hst : starEach (e :: es) X.env = (false, eval e X.env) :: starEach es X.env := by rfl) (hpl : (backTo pos (starEach es X.env)).any (·.1) = false := by rfl)
    (ht : eval (.Call (.Attribute o m apos) (e :: es) [] pos) X.env = (do
      let ov ← eval o X.env
      standAt apos.atName
      let (f, first) ← holding [ov] (getMethod ov m pl)
      callWith pos f first (backTo pos (starEach (e :: es) X.env)) (backToKw pos (keywordEach [] X.env))) := by rfl) :
    PE X (.Call (.Attribute o m apos) (e :: es) [] pos) (tMeth C m sp [] E ta t) := by
  obtain ⟨f, fd, ps, hc, hm, F, b⟩ := c.ex
  exact pe_meth (pl := pl) he hc hm F (hr.mono hk) b .nil (passes_call tk fun _ _ _ _ h => h) ha hst hpl ht
end
section
variable (P : Program) (w : World) (K : PySem.W.Frag) (mg : Str → Option Value) (base : Heap) (k : Nat)
/-- an own exception class with its own __init__ -/
structure MakX (x : Str) (C : Addr) (sp : Sp) : Prop where
  ex : ∃ (f : Addr) (fd : FuncData) (ps : List Str), OexC K C ∧ PySem.W.findIn K (.ref C) "__init__" = some (some (.ref f)) ∧ PySem.W.typeIn K (.ref f) = some (.type "function") ∧ FnOk P w K mg base CX0 k f fd ps sp ∧ mg x = some (.ref C) ∧ Binds K fd ps []
end
section
variable {X : Cx} {k j : Nat} {C : Addr} {x : Str} {sp : Sp} {p pos : Pos} {e : Expr} {es : List Expr} {ta : TA} {W : WX}
theorem pmk_x (c : MakX X.prog X.w X.K X.mg X.base k x C sp) (hr : Room j X.A) (hk : k + 1 ≤ j) (hg : Gl X x) (ha : PA X (e :: es) ta)
    (hdb : (x == ("__debug__" : Str)) = false := by decide) (he : starEach (e :: es) X.env = (false, eval e X.env) :: starEach es X.env := by rfl) (hpl : (backTo pos (starEach es X.env)).any (·.1) = false := by rfl) :
    PMk X (.Call (.Name x p) (e :: es) [] pos) (tMkO C sp [] ta) := by
  obtain ⟨f, fd, ps, T, iC, tI, F, hm, b⟩ := c.ex
  exact pmk_oex T iC tI F (hr.mono hk) b .nil pass0 hg hm ha hdb he hpl
end
section
variable {P : Program} {w : World} {K : PySem.W.Frag} {mg : Str → Option Value} {base : Heap}
theorem spE_len {I : InstE} {n : Nat} (h : ∀ as F r F', I as F r F' → as.length = n) : ∀ (vs : List V) (H : Hp) (Q : VK) (E : XK), spE I vs H Q E → vs.length = n := fun vs H Q E ⟨as, F, r, F', G, hI, hA, _⟩ => by
  rw [hA.len]; exact h _ _ _ _ hI
abbrev BodyE (P : Program) (w : World) (K : PySem.W.Frag) (mg : Str → Option Value) (base : Heap) (N : List Str) (qual : Str) (st : Stmt) (f : Addr) (k : Nat) (I : InstE) : Prop :=
  ∀ (cdv : Value) (A : Around) (outer : List Env) (s : Shared) (H : Hp) (E : XK), Room k (A.deeper (envOfC qual (defScope st) s.heap.objs.size f cdv)) → Takes (cxOf (L2.CX P w) P w K mg base N qual (defScope st) f cdv A outer s H E) (fun cls d _ H => E cls d H) →
      ∃ t, PSs (cxOf (L2.CX P w) P w K mg base N qual (defScope st) f cdv A outer s H E) (defBody st) t ∧ ∀ as F o F' (Γ : Cn) (Dn : Ends), I as F o F' → Γ.S = ad F → Dn.nx = (fun _ H' => Dn.rt .non H') → (∀ r, o = .ret r → Ret Γ F' r Dn.rt) → (∀ C ns ds, o = .exc C ns ds → RetX Γ.S Γ.G Γ.H F' C ns ds E) →
        Go Γ (as ++ List.replicate (N.length - as.length) .unk) F (t Dn)
theorem fnE {x qual : Str} {st : Stmt} {f : Addr} {fd : FuncData} {N ps : List Str} {k : Nat} {I : InstE} (F : FunD K x qual (defArgs st) (defBody st) (defScope st) [] [] f fd) (S : FnScope N ps (defScope st))
    (hI : ∀ as F r F', I as F r F' → as.length = ps.length) (body : BodyE P w K mg base N qual st f k I) : FnOk P w K mg base (L2.CX P w) (k + 1) f fd ps (spE I) := by
  refine F.ok S (spE_len hI) fun cdv A outer s H vs Q E hr h => ?_
  obtain ⟨t, ht, hg⟩ := body cdv A outer s H E hr (takes_of rfl rfl rfl rfl)
  refine ⟨t, ht, ?_⟩
  obtain ⟨as, F, r, F', G, hI2, hA, hF, hQ, hE⟩ := h
  have hl : as.length ≤ N.length := by rw [hI _ _ _ _ hI2]; exact scope_le S
  exact hg as F r F' ⟨ad F, G, H, []⟩ ⟨fun _ H' => Q .non H', Q, _, _⟩ hI2 rfl rfl hQ hE G H _ ⟨⟨hF, start_se hA hl⟩, .refl hF.gh, fun a ha => .inl ha, fun p hp => (by cases hp)⟩
theorem calE {x : Str} {st : Stmt} {f : Addr} {fd : FuncData} {N ps : List Str} {k : Nat} {I : InstE} (F : FunD K x x (defArgs st) (defBody st) (defScope st) [] [] f fd) (gm : mg x = some (.ref f)) (S : FnScope N ps (defScope st)) (b : Binds K fd ps [])
    (hI : ∀ as F r F', I as F r F' → as.length = ps.length) (body : BodyE P w K mg base N x st f k I) : Cal P w K mg base (L2.CX P w) (k + 1) x (spE I) := ⟨f, fd, ps, fnE F S hI body, gm, F.kp, b⟩
theorem metE {m qual : Str} {C : Addr} {st : Stmt} {f : Addr} {fd : FuncData} {N ps : List Str} {k : Nat} {I : InstE} (c : Cls K C) (me : Meth K C m f) (F : FunD K m qual (defArgs st) (defBody st) (defScope st) [] [] f fd) (S : FnScope N ps (defScope st)) (b : Binds K fd ps [])
    (hI : ∀ as F r F', I as F r F' → as.length = ps.length) (body : BodyE P w K mg base N qual st f k I) : Met P w K mg base (L2.CX P w) (k + 1) C m (spE I) := ⟨f, fd, ps, c, me, fnE F S hI body, b⟩
theorem makE {x qual : Str} {C : Addr} {st : Stmt} {f : Addr} {fd : FuncData} {N ps : List Str} {k : Nat} {I : InstE} (M : Mk K C f) (F : FunD K "__init__" qual (defArgs st) (defBody st) (defScope st) [] [] f fd) (gm : mg x = some (.ref C)) (S : FnScope N ps (defScope st)) (b : Binds K fd ps [])
    (hI : ∀ as F r F', I as F r F' → as.length = ps.length) (body : BodyE P w K mg base N qual st f k I) : Mak P w K mg base (L2.CX P w) (k + 1) x C (spE I) := ⟨f, fd, ps, M, fnE F S hI body, gm, b⟩
/-- C(..) of an exception, its __init__ keeping sp1 -/
theorem makX1 {x qual fl : Str} {C : Addr} {st : Stmt} {f : Addr} {fd : FuncData} {N : List Str} {k : Nat} {a1 a2 : Str} (T : OexC K C) (iC : PySem.W.findIn K (.ref C) "__init__" = some (some (.ref f))) (tI : PySem.W.typeIn K (.ref f) = some (.type "function")) (F : FunD K "__init__" qual (defArgs st) (defBody st) (defScope st) [] [] f fd) (gm : mg x = some (.ref C)) (S : FnScope N [a1, a2] (defScope st)) (b : Binds K fd [a1, a2] [])
    (body : ∀ (cdv : Value) (A : Around) (outer : List Env) (s : Shared) (H : Hp) (E : XK), Room k (A.deeper (envOfC qual (defScope st) s.heap.objs.size f cdv)) →
      ∃ t, PSs (cxOf CX0 P w K mg base N qual (defScope st) f cdv A outer s H E).nox (defBody st) t ∧ ∀ (a : Addr) (v : V) (H : Hp) (Q : VK), H a = some (exo a C none) → (∀ d, H d = none → d ≠ a → Q .non (upd (upd H d (exd d [(fl, v)])) a (exo a C (some d)))) → t { nx := fun _ H' => Q .non H', rt := Q } (start N [.ref a, v]) H) : MakX P w K mg base (k + 1) x C (sp1 C fl) := by
  refine ⟨f, fd, _, T, iC, tI, F.ok S (fun vs H Q E ⟨a, v, e, _⟩ => by rw [e]; rfl) fun cdv A outer s H vs Q E hr h => ?_, gm, b⟩
  obtain ⟨t, ht, hg⟩ := body cdv A outer s H E hr
  obtain ⟨a, v, e, ha, q⟩ := h
  subst e
  exact ⟨t, PSs.nox ht, hg a v H Q ha q⟩
end
/-! ### try .. except X: .. -/
section
variable {Γ : Cn} {es : List En} {F' : Fs} {C : Addr} {ns : List Str} {ds : List D} {K : PySem.W.Frag} {c : Value} {ts : Addr → Value → Option Addr → TS} {Wout : WX} {Dn : Ends}
theorem gox_only (hc : PySem.W.exmOne K (.ref C) c = some true) (h : ∀ a dx, Go Γ es F' (ts a (.ref C) (some dx) Dn)) : GoX Γ es F' C ns ds (wOnly K c ts Wout Dn) := fun dx fs G H σ st hd hn hr =>
  ⟨true, hc, fun _ a ha => h a dx G H σ st, fun z => by cases z⟩
theorem go_try {tb : WX → TS} {tz : TS} (h : Go Γ es F' (tb (wOnly K c ts Wout { Dn with nx := tz Dn }) { Dn with nx := tz Dn })) : Go Γ es F' (tSeq (fun D σ H => tb (wOnly K c ts Wout D) D σ H) tz Dn) := h
end
end DL
namespace DL
open PySem PySem.Spec L2 PyProof.Rows
open Evl (Ex)
/-! ### what an exception leaves of owned things -/
def junk (F : Fs) : Fs := (ad F).map fun a => (a, FO.junk)
theorem ad_junk {F : Fs} : ad (junk F) = ad F := by
  unfold junk
  show ((ad F).map fun a => (a, FO.junk)).map (·.1) = _
  rw [List.map_map]
  exact List.map_id _
theorem SF.junk {F : Fs} {G H : Hp} (s : SF F G H) : SF (DL.junk F) G H := ⟨s.gh, fun q hq => by
  unfold DL.junk at hq
  obtain ⟨a, ha, e⟩ := List.mem_map.mp hq
  subst e
  obtain ⟨z, hz, e2⟩ := List.mem_map.mp ha
  obtain ⟨h1, h2⟩ := s.sf z hz
  rw [e2] at h1 h2
  exact ⟨h1, h2.some⟩, by
  have e : (DL.junk F).map (·.1) = F.map (·.1) := ad_junk
  rw [e]; exact s.nd⟩
theorem junk_ad {F F1 : Fs} (h : ad F1 = ad F) : junk F1 = junk F := by unfold junk; rw [h]
section
variable {Γ : Cn} {es : List En} {F F1 R Fd : Fs} {C Ca : Addr} {ns : List Str} {ds : List D} {E : XK} {as : List En} {tas : TA}
theorem gox_junk (e : ad F1 = ad F) (h : RetX Γ.S Γ.G Γ.H (junk F) C ns ds E) : GoX Γ es F1 C ns ds (fun c d _ H => E c d H) := fun dx fs G H σ st hd hn hr => h dx fs G H (by rw [← junk_ad e]; exact st.s.f.junk) st.g hd hn hr
theorem gox_junkR (e : ad F1 = ad F) (h : RetX Γ.S Γ.G Γ.H (junk F) C ns ds E) : GoX Γ es (F1 ++ R) C ns ds (fun c d _ H => E c d H) := fun dx fs G H σ st hd hn hr => h dx fs G H (by rw [← junk_ad e]; exact st.s.f.left.junk) st.g hd hn hr
/-- C(..) raises -/
theorem eve_make {I : InstE} (ha : EvA tas es F as F1) (hI : ∀ x, I (.val (.ref x) :: as) [(x, .obj Ca [] [])] (.exc C ns ds) [(x, .junk)]) :
    EvE (tMake Ca (spE I) [] E tas) es F C ns ds F1 (fun c d _ H => E c d H) := ⟨ha.1, fun G H σ s Q k =>
  ha.2 G H σ s _ fun vs G1 H1 s1 g1 r1 => fun x dx hx hdx ne => by
    rw [List.append_nil]
    have g2 : Gro [] G1 H1 G1 (upd H1 dx (.own x)) := gro_laid s1.gex hdx
    have s2 : SF F1 G1 (upd H1 dx (.own x)) := s1.f.laid hdx
    have hx2 : (upd H1 dx (.own x)) x = none := by rw [upd_ne (fun e => ne e.symm)]; exact hx
    have g3 : Gro [] G1 (upd H1 dx (.own x)) G1 (upd (upd H1 dx (.own x)) x (.ins Ca dx [])) := gro_laid s2.gh hx2
    have s3 := s2.newOwn (f := .obj Ca [] []) (o := .ins Ca dx []) hx2 ⟨dx, [], upd_same, rfl, .nil⟩
    have s4 : SF ([(x, .obj Ca [] [])] ++ F1) G1 (upd (upd H1 dx (.own x)) x (.ins Ca dx [])) := ⟨s3.gh, fun q hq => s3.sf q (by
        rcases List.mem_append.mp hq with z | z
        · exact List.mem_append_right _ z
        · exact List.mem_append_left _ z), by
      have nd := s3.nd
      rw [List.map_append] at nd
      have z := List.nodup_append.mp nd
      show (x :: F1.map (·.1)).Nodup
      exact List.nodup_cons.mpr ⟨fun h => z.2.2 x h x (by simp) rfl, z.1⟩⟩
    refine ⟨_, [(x, .obj Ca [] [])], _, [(x, .junk)], G1, hI x, .val r1, s4.left, fun _ e => (by cases e), fun C' ns' ds' e dx' fs' G5 H5 s5 g5 hd hn hr => ?_⟩
    cases e
    have s6 : SF ([(x, .junk)] ++ F1) G5 H5 := SF.keep s4 g5 s5 rfl
    have g6 : Gro (x :: ad F1) G1 H1 G5 H5 := ((g2.trans g3 fun x h => by cases h).wide (T := x :: ad F1) fun x h => by cases h).trans (g5.wide (T := x :: ad F1) fun y hy => by
      have e : y = x := by simpa [ad] using hy
      rw [e]; exact List.mem_cons_self) fun _ h => .inl h
    have g8 : Gro (ad F1) G1 H1 G5 H5 := ⟨g6.gg, s6.gh, fun b u n q => g6.fr b u (fun z => by
        rcases List.mem_cons.mp z with z | z
        · subst z; rw [hx] at q; cases q
        · exact n z) q, fun b u n q => g6.fz b u (fun z => by
        rcases List.mem_cons.mp z with z | z
        · subst z; rw [hx] at q; cases q
        · exact n z) q⟩
    exact k dx' fs' G5 H5 ⟨s6.right, s1.se.mono g8.gg⟩ (g1.then ha.1 g8) hd hn hr⟩
/-- C(..) made, __init__ able to raise -/
theorem evx_makeE {I : InstE} {as' : List En} {nsO : List Str} (ha : EvA tas es F as F1) (hI : ∀ x, I (.val (.ref x) :: as) [(x, .obj Ca [] [])] (.ret .non) [(x, .obj Ca nsO as')]) (hd : dats as' = some ds) :
    EvX (tMake Ca (spE I) [] E tas) es F (.obj Ca nsO ds) F1 := by
  refine ⟨ha.1, fun G H σ s Q k => ha.2 G H σ s _ fun vs G1 H1 s1 g1 r1 => fun x dx hx hdx ne => ?_⟩
  rw [List.append_nil]
  have g2 : Gro [] G1 H1 G1 (upd H1 dx (.own x)) := gro_laid s1.gex hdx
  have s2 : SF F1 G1 (upd H1 dx (.own x)) := s1.f.laid hdx
  have hx2 : (upd H1 dx (.own x)) x = none := by rw [upd_ne (fun e => ne e.symm)]; exact hx
  have g3 : Gro [] G1 (upd H1 dx (.own x)) G1 (upd (upd H1 dx (.own x)) x (.ins Ca dx [])) := gro_laid s2.gh hx2
  have s3 := s2.newOwn (f := .obj Ca [] []) (o := .ins Ca dx []) hx2 ⟨dx, [], upd_same, rfl, .nil⟩
  have s4 : SF ([(x, .obj Ca [] [])] ++ F1) G1 (upd (upd H1 dx (.own x)) x (.ins Ca dx [])) := ⟨s3.gh, fun q hq => s3.sf q (by
      rcases List.mem_append.mp hq with z | z
      · exact List.mem_append_right _ z
      · exact List.mem_append_left _ z), by
    have nd := s3.nd
    rw [List.map_append] at nd
    have z := List.nodup_append.mp nd
    show (x :: F1.map (·.1)).Nodup
    exact List.nodup_cons.mpr ⟨fun h => z.2.2 x h x (by simp) rfl, z.1⟩⟩
  refine ⟨_, [(x, .obj Ca [] [])], _, [(x, .obj Ca nsO as')], G1, hI x, .val r1, s4.left, fun r er v G5 H5 s5 g5 r5 => ?_, fun _ _ _ e => (by cases e)⟩
  cases er
  refine ⟨rp_non r5, ?_⟩
  have s6 : SF ([(x, .obj Ca nsO as')] ++ F1) G5 H5 := SF.keep s4 g5 s5 rfl
  obtain ⟨o, s7, e7, g7, r7⟩ := SF.delO (F := []) (R := F1) s6 hd
  have g6 : Gro (x :: ad F1) G1 H1 G5 H5 := ((g2.trans g3 fun x h => by cases h).wide (T := x :: ad F1) fun x h => by cases h).trans (g5.wide (T := x :: ad F1) fun y hy => by
    have e : y = x := by simpa [ad] using hy
    rw [e]; exact List.mem_cons_self) fun _ h => .inl h
  have g8 : Gro (ad F1) G1 H1 (upd G5 x o) H5 := ⟨g6.gg.trans e7, s7.gh, fun b u n q => g6.fr b u (fun z => by
      rcases List.mem_cons.mp z with z | z
      · subst z; rw [hx] at q; cases q
      · exact n z) q, fun b u n q => by
    have nb : b ≠ x := fun z => by subst z; rw [hx] at q; cases q
    rw [upd_ne nb]
    exact g6.fz b u (fun z => by
      rcases List.mem_cons.mp z with z | z
      · exact nb z
      · exact n z) q⟩
  exact k _ _ H5 ⟨s7, s1.se.mono g8.gg⟩ (g1.then ha.1 g8) r7
end
end DL
set_option Elab.async false
set_option linter.all false
set_option maxRecDepth 100000
set_option maxHeartbeats 4000000
/-! spans: what the class Spans computes -/
namespace W
open PySem L2 DL
/-! ### square tables -/
section
variable {α : Type} {n i j a b : Nat} {x d : α} {M : List (List α)}
def atM (d : α) (M : List (List α)) (i j : Nat) : α := (M.getD i []).getD j d
def setM (M : List (List α)) (i j : Nat) (x : α) : List (List α) := M.set i ((M.getD i []).set j x)
structure Dim (n : Nat) (M : List (List α)) : Prop where
  l : M.length = n
  r : ∀ r ∈ M, r.length = n
theorem Dim.row (h : Dim n M) (hi : i < n) : ∃ r, M[i]? = some r ∧ r.length = n ∧ M.getD i [] = r := by
  have hl := h.l
  have e := List.getElem?_eq_getElem (l := M) (i := i) (by omega)
  exact ⟨M[i], e, h.r _ (List.getElem_mem _), by rw [List.getD_eq_getElem?_getD, e]; rfl⟩
theorem Dim.at (h : Dim n M) (hi : i < n) (hj : j < n) : ∃ r, M[i]? = some r ∧ r[j]? = some (atM d M i j) := by
  obtain ⟨r, h1, h2, h3⟩ := h.row hi
  refine ⟨r, h1, ?_⟩
  unfold atM
  rw [h3]
  have e := List.getElem?_eq_getElem (l := r) (i := j) (by omega)
  rw [List.getD_eq_getElem?_getD, e]; rfl
theorem Dim.set (h : Dim n M) (hi : i < n) : Dim n (setM M i j x) := by
  obtain ⟨r, h1, h2, h3⟩ := h.row hi
  refine ⟨by unfold setM; rw [List.length_set]; exact h.l, fun q hq => ?_⟩
  unfold setM at hq
  rcases List.mem_or_eq_of_mem_set hq with z | z
  · exact h.r q z
  · rw [z, List.length_set, h3, h2]
theorem atM_set (h : Dim n M) (hi : i < n) (hj : j < n) : atM d (setM M i j x) a b = if a = i ∧ b = j then x else atM d M a b := by
  obtain ⟨r, h1, h2, h3⟩ := h.row hi
  have hl := h.l
  unfold atM setM
  by_cases ha : a = i
  · subst ha
    have e : (M.set a ((M.getD a []).set j x)).getD a [] = (M.getD a []).set j x := by
      rw [List.getD_eq_getElem?_getD, List.getElem?_set_self (by omega)]; rfl
    rw [e]
    by_cases hb : b = j
    · subst hb
      rw [if_pos ⟨rfl, rfl⟩, List.getD_eq_getElem?_getD, List.getElem?_set_self (by rw [h3, h2]; exact hj)]; rfl
    · rw [if_neg (fun z => hb z.2), List.getD_eq_getElem?_getD, List.getElem?_set_ne (fun z => hb z.symm), ← List.getD_eq_getElem?_getD]
  · rw [if_neg (fun z => ha z.1)]
    have e : (M.set i ((M.getD i []).set j x)).getD a [] = M.getD a [] := by
      rw [List.getD_eq_getElem?_getD, List.getElem?_set_ne (fun z => ha z.symm), ← List.getD_eq_getElem?_getD]
    rw [e]
theorem Dim.rep : Dim n (List.replicate n (List.replicate n x)) := ⟨List.length_replicate, fun r hr => by rw [(List.mem_replicate.mp hr).2, List.length_replicate]⟩
theorem atM_rep : atM d (List.replicate n (List.replicate n d)) a b = d := by
  unfold atM
  have e : (List.replicate n (List.replicate n d)).getD a [] = if a < n then List.replicate n d else [] := by
    rw [List.getD_eq_getElem?_getD, List.getElem?_replicate]
    split <;> rfl
  rw [e]
  split
  · rw [List.getD_eq_getElem?_getD, List.getElem?_replicate]
    split <;> rfl
  · rfl
theorem setM_map {β : Type} (f : α → β) (h : Dim n M) (hi : i < n) : (setM M i j x).map (·.map f) = setM (M.map (·.map f)) i j (f x) := by
  obtain ⟨r, h1, h2, h3⟩ := h.row hi
  unfold setM
  rw [List.map_set, h3, List.map_set]
  have e : (M.map (·.map f)).getD i [] = r.map f := by rw [List.getD_eq_getElem?_getD, List.getElem?_map, h1]; rfl
  rw [e]
end
/-! ### the model -/
abbrev TT := List (List (Option Int))
abbrev RR := List (List (List Int))
structure SpS where
  T : TT
  R : RR
def tAt (T : TT) (i j : Nat) : Option Int := atM none T i j
def rAt (R : RR) (i j : Nat) : List Int := atM [] R i j
def better (o : Option Int) (most : Int) : Bool := match o with | none => true | some v => decide (most < v)
abbrev Res := Except (List Int) SpS
def sp0 (n : Nat) : SpS := ⟨List.replicate n (List.replicate n none), List.replicate n (List.replicate n [])⟩
def putS (s : SpS) (i j : Nat) (most : Int) (road : List Int) : SpS := ⟨setM s.T i j (some most), setM s.R i j road⟩
def diagAt (n : Nat) : Nat → SpS
  | 0 => sp0 n
  | k + 1 => putS (diagAt n k) k k 0 [(k : Int)]
def bnd1 (s : SpS) (b : T3) : Res :=
  if b.1 = b.2.1 ∧ b.2.2 < 0 then .error [b.1]
  else if b.1 ≠ b.2.1 ∧ better (tAt s.T b.1.toNat b.2.1.toNat) b.2.2 = true then .ok (putS s b.1.toNat b.2.1.toNat b.2.2 [b.1, b.2.1]) else .ok s
def bndAt (n : Nat) (bs : List T3) : Nat → Res
  | 0 => .ok (diagAt n n)
  | k + 1 => (bndAt n bs k).bind fun s => match bs[k]? with | some b => bnd1 s b | none => .ok s
def takeS (s : SpS) (i j : Nat) (most : Int) (road : List Int) : Res := if i = j then .error road.dropLast else .ok (putS s i j most road)
def by1 (s : SpS) (mid i j : Nat) : Res :=
  match tAt s.T i mid, tAt s.T mid j with
  | some a, some b => if better (tAt s.T i j) (a + b) = true then takeS s i j (a + b) (rAt s.R i mid ++ (rAt s.R mid j).tail) else .ok s
  | _, _ => .ok s
def rowAt (mid i : Nat) (s : SpS) : Nat → Res
  | 0 => .ok s
  | j + 1 => (rowAt mid i s j).bind fun s => by1 s mid i j
def goAt (n mid : Nat) (s : SpS) : Nat → Res
  | 0 => .ok s
  | i + 1 => (goAt n mid s i).bind fun s => rowAt mid i s n
def midAt (n : Nat) (bs : List T3) : Nat → Res
  | 0 => bndAt n bs bs.length
  | m + 1 => (midAt n bs m).bind fun s => goAt n m s n
def spans (n : Nat) (bs : List T3) : Res := midAt n bs n

/-! ### what stands of the tables -/
structure SpI (n L : Nat) (s : SpS) : Prop where
  t : Dim n s.T
  r : Dim n s.R
  d : ∀ i, i < n → tAt s.T i i = some 0
  ne : ∀ i j, tAt s.T i j ≠ none → rAt s.R i j ≠ []
  l : ∀ i j, (rAt s.R i j).length ≤ L
theorem tAt_put {n i j a b : Nat} {s : SpS} {most : Int} {road : List Int} (h : Dim n s.T) (hi : i < n) (hj : j < n) : tAt (putS s i j most road).T a b = if a = i ∧ b = j then some most else tAt s.T a b := atM_set h hi hj
theorem rAt_put {n i j a b : Nat} {s : SpS} {most : Int} {road : List Int} (h : Dim n s.R) (hi : i < n) (hj : j < n) : rAt (putS s i j most road).R a b = if a = i ∧ b = j then road else rAt s.R a b := atM_set h hi hj
theorem SpI.put {n L i j : Nat} {s : SpS} {most : Int} {road : List Int} (h : SpI n L s) (hi : i < n) (hj : j < n) (ne : i ≠ j) (hr : road ≠ []) (hl : road.length ≤ L) : SpI n L (putS s i j most road) := by
  refine ⟨h.t.set hi, h.r.set hi, fun a ha => ?_, fun a b => ?_, fun a b => ?_⟩
  · rw [tAt_put h.t hi hj, if_neg (fun z => ne (z.1.symm.trans z.2))]; exact h.d a ha
  · rw [tAt_put h.t hi hj, rAt_put h.r hi hj]
    split
    · exact fun _ => hr
    · exact h.ne a b
  · rw [rAt_put h.r hi hj]
    split
    · exact hl
    · exact h.l a b
structure DiI (n k : Nat) (s : SpS) : Prop where
  t : Dim n s.T
  r : Dim n s.R
  d : ∀ i j, tAt s.T i j = if i = j ∧ i < k then some 0 else none
  rr : ∀ i j, rAt s.R i j = if i = j ∧ i < k then [(i : Int)] else []
theorem diag_ok {n : Nat} : ∀ k : Nat, k ≤ n → DiI n k (diagAt n k)
  | 0, _ => ⟨Dim.rep, Dim.rep, fun i j => by rw [if_neg (by omega)]; exact atM_rep, fun i j => by rw [if_neg (by omega)]; exact atM_rep⟩
  | k + 1, h => by
    have ih := diag_ok (n := n) k (by omega)
    have hk : k < n := by omega
    refine ⟨Dim.set (i := k) ih.t hk, Dim.set (i := k) ih.r hk, fun i j => ?_, fun i j => ?_⟩
    · show tAt (putS (diagAt n k) k k 0 [(k : Int)]).T i j = _
      rw [tAt_put (i := k) (j := k) ih.t (by omega) (by omega), ih.d]
      by_cases h1 : i = k ∧ j = k
      · obtain ⟨rfl, rfl⟩ := h1
        rw [if_pos ⟨rfl, rfl⟩, if_pos ⟨rfl, by omega⟩]
      · rw [if_neg h1]
        by_cases h2 : i = j ∧ i < k
        · rw [if_pos h2, if_pos ⟨h2.1, by omega⟩]
        · rw [if_neg h2, if_neg (by omega)]
    · show rAt (putS (diagAt n k) k k 0 [(k : Int)]).R i j = _
      rw [rAt_put (i := k) (j := k) ih.r (by omega) (by omega), ih.rr]
      by_cases h1 : i = k ∧ j = k
      · obtain ⟨rfl, rfl⟩ := h1
        rw [if_pos ⟨rfl, rfl⟩, if_pos ⟨rfl, by omega⟩]
      · rw [if_neg h1]
        by_cases h2 : i = j ∧ i < k
        · rw [if_pos h2, if_pos ⟨h2.1, by omega⟩]
        · rw [if_neg h2, if_neg (by omega)]
theorem diag_inv {n : Nat} : SpI n 2 (diagAt n n) := by
  have h := diag_ok n (Nat.le_refl n)
  refine ⟨h.t, h.r, fun i hi => ?_, fun i j => ?_, fun i j => ?_⟩
  · rw [h.d, if_pos ⟨rfl, hi⟩]
  · rw [h.d, h.rr]
    split
    · simp
    · simp
  · rw [h.rr]
    split <;> simp
theorem bnd1_inv {n : Nat} {s s' : SpS} {b : T3} (h : SpI n 2 s) (hb : BndOk (n : Int) b) (e : bnd1 s b = .ok s') : SpI n 2 s' := by
  obtain ⟨h1, h2, h3, h4, _, _⟩ := hb
  unfold bnd1 at e
  split at e
  · cases e
  · split at e
    · rename_i h6
      cases e
      exact h.put (by omega) (by omega) (by omega) (by simp) (by simp)
    · cases e; exact h
theorem bndAt_inv {n : Nat} {bs : List T3} (hb : ∀ b ∈ bs, BndOk (n : Int) b) : ∀ (k : Nat) (s : SpS), bndAt n bs k = .ok s → SpI n 2 s
  | 0, s, e => by
    have e2 : (Except.ok (diagAt n n) : Res) = .ok s := e
    cases e2; exact diag_inv
  | k + 1, s, e => by
    have e2 : (bndAt n bs k).bind (fun s => match bs[k]? with | some b => bnd1 s b | none => .ok s) = .ok s := e
    cases hk : bndAt n bs k with
    | error z => rw [hk] at e2; cases e2
    | ok s1 =>
      rw [hk] at e2
      have e3 : (match bs[k]? with | some b => bnd1 s1 b | none => .ok s1) = Except.ok s := e2
      have ih := bndAt_inv hb k s1 hk
      cases hbk : bs[k]? with
      | none => rw [hbk] at e3; cases e3; exact ih
      | some b => rw [hbk] at e3; exact bnd1_inv ih (hb b (List.mem_of_getElem? hbk)) e3
/-- within the round of mid -/
structure SpR (n L mid : Nat) (s : SpS) : Prop where
  i : SpI n (2 * L) s
  c : ∀ i, (rAt s.R i mid).length ≤ L
  w : ∀ j, (rAt s.R mid j).length ≤ L
theorem better_f {a : Int} : better (some a) a = false := decide_eq_false (by omega)
theorem by1_ne {n mid i j : Nat} {s : SpS} {a b : Int} (hd : tAt s.T mid mid = some 0) (h1 : tAt s.T i mid = some a) (h2 : tAt s.T mid j = some b) (hb : better (tAt s.T i j) (a + b) = true) : i ≠ mid ∧ j ≠ mid := by
  constructor
  · rintro rfl
    rw [hd] at h1
    cases h1
    rw [h2, Int.zero_add, better_f] at hb
    cases hb
  · rintro rfl
    rw [hd] at h2
    cases h2
    rw [h1, Int.add_zero, better_f] at hb
    cases hb
theorem by1_inv {n L mid i j : Nat} {s s' : SpS} (h : SpR n L mid s) (hm : mid < n) (hi : i < n) (hj : j < n) (e : by1 s mid i j = .ok s') : SpR n L mid s' := by
  unfold by1 at e
  split at e
  · rename_i a b h1 h2
    split at e
    · rename_i hb
      have hne := by1_ne (n := n) (h.i.d mid hm) h1 h2 hb
      unfold takeS at e
      split at e
      · cases e
      · rename_i hij
        cases e
        have r1 := h.c i
        have r2 := h.w j
        have n1 := h.i.ne i mid (by rw [h1]; simp)
        refine ⟨h.i.put hi hj hij (by simp [n1]) (by rw [List.length_append, List.length_tail]; omega), fun a => ?_, fun b => ?_⟩
        · rw [rAt_put h.i.r hi hj, if_neg (fun z => hne.2 z.2.symm)]; exact h.c a
        · rw [rAt_put h.i.r hi hj, if_neg (fun z => hne.1 z.1.symm)]; exact h.w b
    · cases e; exact h
  · cases e; exact h
theorem rowAt_inv {n L mid i : Nat} {s : SpS} (h : SpR n L mid s) (hm : mid < n) (hi : i < n) : ∀ (j : Nat) (s' : SpS), j ≤ n → rowAt mid i s j = .ok s' → SpR n L mid s'
  | 0, s', _, e => by
    have e2 : (Except.ok s : Res) = .ok s' := e
    cases e2; exact h
  | j + 1, s', hj, e => by
    have e2 : (rowAt mid i s j).bind (fun s => by1 s mid i j) = .ok s' := e
    cases hk : rowAt mid i s j with
    | error z => rw [hk] at e2; cases e2
    | ok s1 =>
      rw [hk] at e2
      exact by1_inv (rowAt_inv h hm hi j s1 (by omega) hk) hm hi (by omega) e2
theorem goAt_inv {n L mid : Nat} {s : SpS} (h : SpR n L mid s) (hm : mid < n) : ∀ (i : Nat) (s' : SpS), i ≤ n → goAt n mid s i = .ok s' → SpR n L mid s'
  | 0, s', _, e => by
    have e2 : (Except.ok s : Res) = .ok s' := e
    cases e2; exact h
  | i + 1, s', hi, e => by
    have e2 : (goAt n mid s i).bind (fun s => rowAt mid i s n) = .ok s' := e
    cases hk : goAt n mid s i with
    | error z => rw [hk] at e2; cases e2
    | ok s1 =>
      rw [hk] at e2
      exact rowAt_inv (goAt_inv h hm i s1 (by omega) hk) hm (by omega) n s' (Nat.le_refl n) e2
theorem SpI.round {n L mid : Nat} {s : SpS} (h : SpI n L s) : SpR n L mid s := ⟨⟨h.t, h.r, h.d, h.ne, fun i j => by have := h.l i j; omega⟩, fun i => h.l i mid, fun j => h.l mid j⟩
theorem midAt_inv {n : Nat} {bs : List T3} (hb : ∀ b ∈ bs, BndOk (n : Int) b) : ∀ (m : Nat) (s : SpS), m ≤ n → midAt n bs m = .ok s → SpI n (2 * 2 ^ m) s
  | 0, s, _, e => bndAt_inv hb bs.length s e
  | m + 1, s, hm, e => by
    have e2 : (midAt n bs m).bind (fun s => goAt n m s n) = .ok s := e
    cases hk : midAt n bs m with
    | error z => rw [hk] at e2; cases e2
    | ok s1 =>
      rw [hk] at e2
      have ih := midAt_inv hb m s1 (by omega) hk
      have h2 := (goAt_inv ih.round (by omega) n s (Nat.le_refl n) e2).i
      have e3 : 2 * (2 * 2 ^ m) = 2 * 2 ^ (m + 1) := by rw [Nat.pow_succ]; omega
      rw [e3] at h2
      exact h2
end W
set_option Elab.async false
set_option linter.all false
set_option maxRecDepth 100000
set_option maxHeartbeats 4000000
/-! the tables as owned lists; instances of Spans' methods -/
namespace W
open PySem L2 DL
abbrev cS (K : PySem.W.Frag) : Addr := He.ga K "Spans"
abbrev cNT (K : PySem.W.Frag) : Addr := He.ga K "NoTimes"
abbrev nS : List Str := ["many", "table", "roads"]
def optD : Option Int → D
  | none => .non
  | some i => .int i
def roadD (r : List Int) : D := .tup (r.map D.int)
abbrev ringD (r : List Int) : D := .lst (r.map D.int)
def fS (K : PySem.W.Frag) (x tb rd : Addr) (l1 l2 : List Addr) (n : Nat) (s : SpS) : Fs :=
  (x, .obj (cS K) nS [.dat (.int (n : Int)), .val (.ref tb), .val (.ref rd)]) :: (tb, .raw (.lst (l1.map V.ref))) :: (rd, .raw (.lst (l2.map V.ref))) :: (zF l1 (s.T.map (·.map optD)) ++ zF l2 (s.R.map (·.map roadD)))
structure AdS (x tb rd : Addr) (l1 l2 : List Addr) (n : Nat) : Prop where
  e1 : l1.length = n
  e2 : l2.length = n
  nd : (x :: tb :: rd :: (l1 ++ l2)).Nodup
structure DmS (n : Nat) (s : SpS) : Prop where
  t : Dim n s.T
  r : Dim n s.R
section
variable {K : PySem.W.Frag} {x tb rd : Addr} {l1 l2 : List Addr} {n i j : Nat} {s : SpS}
theorem dim_map {α β : Type} {f : α → β} {M : List (List α)} (h : Dim n M) : Dim n (M.map (·.map f)) := ⟨by rw [List.length_map]; exact h.l, fun r hr => by
  obtain ⟨q, hq, e⟩ := List.mem_map.mp hr
  subst e
  rw [List.length_map]; exact h.r q hq⟩
theorem fS_ad (h : AdS x tb rd l1 l2 n) (hs : DmS n s) : ad (fS K x tb rd l1 l2 n s) = x :: tb :: rd :: (l1 ++ l2) := by
  show x :: tb :: rd :: ad (zF l1 _ ++ zF l2 _) = _
  rw [ad_app, zF_ad (by rw [h.e1, List.length_map, hs.t.l]), zF_ad (by rw [h.e2, List.length_map, hs.r.l])]
theorem fS_x : (x, FO.obj (cS K) nS [.dat (.int (n : Int)), .val (.ref tb), .val (.ref rd)]) ∈ fS K x tb rd l1 l2 n s := List.mem_cons_self
theorem fS_tb : (tb, FO.raw (.lst (l1.map V.ref))) ∈ fS K x tb rd l1 l2 n s := List.mem_cons_of_mem _ List.mem_cons_self
theorem fS_rd : (rd, FO.raw (.lst (l2.map V.ref))) ∈ fS K x tb rd l1 l2 n s := List.mem_cons_of_mem _ (List.mem_cons_of_mem _ List.mem_cons_self)
theorem fS_r1 {l : Addr} {r : List D} (h1 : l1[i]? = some l) (h2 : (s.T.map (·.map optD))[i]? = some r) : (l, FO.own r) ∈ fS K x tb rd l1 l2 n s :=
  List.mem_cons_of_mem _ (List.mem_cons_of_mem _ (List.mem_cons_of_mem _ (List.mem_append_left _ (zF_mem h1 h2))))
theorem fS_r2 {l : Addr} {r : List D} (h1 : l2[i]? = some l) (h2 : (s.R.map (·.map roadD))[i]? = some r) : (l, FO.own r) ∈ fS K x tb rd l1 l2 n s :=
  List.mem_cons_of_mem _ (List.mem_cons_of_mem _ (List.mem_cons_of_mem _ (List.mem_append_right _ (zF_mem h1 h2))))
theorem row_at {α : Type} {d : α} {f : α → D} {M : List (List α)} (h : Dim n M) (hi : i < n) (hj : j < n) : ∃ r, (M.map (·.map f))[i]? = some r ∧ r.length = n ∧ r[j]? = some (f (atM d M i j)) := by
  obtain ⟨r, h1, h2⟩ := h.at (d := d) hi hj
  refine ⟨r.map f, by rw [List.getElem?_map, h1]; rfl, by rw [List.length_map]; exact h.r r (List.mem_of_getElem? h1), by rw [List.getElem?_map, h2]; rfl⟩
theorem get_some {ls : List Addr} (h : ls.length = n) (hi : i < n) : ∃ l, ls[i]? = some l := ⟨_, List.getElem?_eq_getElem (by omega)⟩
theorem fS_T (h : AdS x tb rd l1 l2 n) (hs : DmS n s) (hi : i < n) {l : Addr} (hl : l1[i]? = some l) {r : List D} (hr : (s.T.map (·.map optD))[i]? = some r) (v : Option Int) :
    chg (fS K x tb rd l1 l2 n s) l (.own (r.set j (optD v))) = fS K x tb rd l1 l2 n ⟨setM s.T i j v, s.R⟩ := by
  have nd := h.nd
  have hm := List.mem_of_getElem? hl
  rw [List.nodup_cons, List.nodup_cons, List.nodup_cons] at nd
  obtain ⟨n1, n2, n3, n4⟩ := nd
  have a1 : x ≠ l := fun e => n1 (by rw [e]; simp [hm])
  have a2 : tb ≠ l := fun e => n2 (by rw [e]; simp [hm])
  have a3 : rd ≠ l := fun e => n3 (by rw [e]; simp [hm])
  have n5 := List.nodup_append.mp n4
  have a4 : l ∉ ad (zF l2 (s.R.map (·.map roadD))) := by
    rw [zF_ad (by rw [h.e2, List.length_map, hs.r.l])]
    exact fun z => n5.2.2 l hm l z rfl
  show chg ((x, _) :: (tb, _) :: (rd, _) :: (zF l1 (s.T.map (·.map optD)) ++ zF l2 (s.R.map (·.map roadD)))) l _ = _
  rw [chg_ne a1, chg_ne a2, chg_ne a3, chg_app, chg_out a4, chg_zF n5.1 (by rw [h.e1, List.length_map, hs.t.l]) hl]
  unfold fS
  have e : (setM s.T i j v).map (·.map optD) = (s.T.map (·.map optD)).set i (r.set j (optD v)) := by
    rw [setM_map optD hs.t hi]
    unfold setM
    rw [List.getD_eq_getElem?_getD, hr]; rfl
  dsimp only
  rw [e]
theorem fS_R (h : AdS x tb rd l1 l2 n) (hs : DmS n s) (hi : i < n) {l : Addr} (hl : l2[i]? = some l) {r : List D} (hr : (s.R.map (·.map roadD))[i]? = some r) (v : List Int) :
    chg (fS K x tb rd l1 l2 n s) l (.own (r.set j (roadD v))) = fS K x tb rd l1 l2 n ⟨s.T, setM s.R i j v⟩ := by
  have nd := h.nd
  have hm := List.mem_of_getElem? hl
  rw [List.nodup_cons, List.nodup_cons, List.nodup_cons] at nd
  obtain ⟨n1, n2, n3, n4⟩ := nd
  have a1 : x ≠ l := fun e => n1 (by rw [e]; simp [hm])
  have a2 : tb ≠ l := fun e => n2 (by rw [e]; simp [hm])
  have a3 : rd ≠ l := fun e => n3 (by rw [e]; simp [hm])
  have n5 := List.nodup_append.mp n4
  have a4 : l ∉ ad (zF l1 (s.T.map (·.map optD))) := by
    rw [zF_ad (by rw [h.e1, List.length_map, hs.t.l])]
    exact fun z => n5.2.2 l z l hm rfl
  show chg ((x, _) :: (tb, _) :: (rd, _) :: (zF l1 (s.T.map (·.map optD)) ++ zF l2 (s.R.map (·.map roadD)))) l _ = _
  rw [chg_ne a1, chg_ne a2, chg_ne a3, chg_app, chg_out a4, chg_zF n5.2.1 (by rw [h.e2, List.length_map, hs.r.l]) hl]
  unfold fS
  have e : (setM s.R i j v).map (·.map roadD) = (s.R.map (·.map roadD)).set i (r.set j (roadD v)) := by
    rw [setM_map roadD hs.r hi]
    unfold setM
    rw [List.getD_eq_getElem?_getD, hr]; rfl
  dsimp only
  rw [e]
end
section
variable {K : PySem.W.Frag} {x tb rd : Addr} {l1 l2 : List Addr} {n i j : Nat} {s : SpS} {es : List En} {ti tj te : TE} {Γ : Cn} {Dn : Ends} {tz : TS} {F0 : Fs}
theorem evv_tab (hx : es[0]? = some (.val (.ref x))) (hc : Cls K (cS K)) (hn : NoAttr K (cS K) "table") : EvV (tFld K (tVar 0) "table") es (fS K x tb rd l1 l2 n s) (.ref tb) (fS K x tb rd l1 l2 n s) := evv_fldO (evv_var hx) fS_x hc hn rfl
theorem evv_rds (hx : es[0]? = some (.val (.ref x))) (hc : Cls K (cS K)) (hn : NoAttr K (cS K) "roads") : EvV (tFld K (tVar 0) "roads") es (fS K x tb rd l1 l2 n s) (.ref rd) (fS K x tb rd l1 l2 n s) := evv_fldO (evv_var hx) fS_x hc hn rfl
theorem evx_T (h : AdS x tb rd l1 l2 n) (hs : DmS n s) (hc : Cls K (cS K)) (hn : NoAttr K (cS K) "table") (hi : i < n) (hj : j < n) (hx : es[0]? = some (.val (.ref x))) (h1 : EvX ti es (fS K x tb rd l1 l2 n s) (.int (i : Int)) (fS K x tb rd l1 l2 n s)) (h2 : EvX tj es (fS K x tb rd l1 l2 n s) (.int (j : Int)) (fS K x tb rd l1 l2 n s)) :
    EvX (tOp (rIxL K) (tOp (rIxL K) (tFld K (tVar 0) "table") ti) tj) es (fS K x tb rd l1 l2 n s) (optD (tAt s.T i j)) (fS K x tb rd l1 l2 n s) := by
  obtain ⟨l, hl⟩ := get_some h.e1 hi
  obtain ⟨r, r1, r2, r3⟩ := row_at (d := none) (f := optD) hs.t hi hj
  exact evx_ixown (evv_ixraw (evv_tab hx hc hn) h1 fS_tb (atI_nat hl)) h2 (fS_r1 hl r1) (atI_nat r3)
theorem evx_R (h : AdS x tb rd l1 l2 n) (hs : DmS n s) (hc : Cls K (cS K)) (hn : NoAttr K (cS K) "roads") (hi : i < n) (hj : j < n) (hx : es[0]? = some (.val (.ref x))) (h1 : EvX ti es (fS K x tb rd l1 l2 n s) (.int (i : Int)) (fS K x tb rd l1 l2 n s)) (h2 : EvX tj es (fS K x tb rd l1 l2 n s) (.int (j : Int)) (fS K x tb rd l1 l2 n s)) :
    EvX (tOp (rIxL K) (tOp (rIxL K) (tFld K (tVar 0) "roads") ti) tj) es (fS K x tb rd l1 l2 n s) (roadD (rAt s.R i j)) (fS K x tb rd l1 l2 n s) := by
  obtain ⟨l, hl⟩ := get_some h.e2 hi
  obtain ⟨r, r1, r2, r3⟩ := row_at (d := []) (f := roadD) hs.r hi hj
  exact evx_ixown (evv_ixraw (evv_rds hx hc hn) h1 fS_rd (atI_nat hl)) h2 (fS_r2 hl r1) (atI_nat r3)
theorem ixN_nat {n j : Nat} (h : j < n) : ixN n (j : Int) = some j := by
  have h2 : atI (List.replicate n ()) (j : Int) = (List.replicate n ())[j]? := by
    rw [List.getElem?_eq_getElem (by rw [List.length_replicate]; exact h)]
    exact atI_nat (by rw [List.getElem?_eq_getElem (by rw [List.length_replicate]; exact h)])
  unfold ixN
  rw [if_pos (by omega), if_pos (by omega)]
  simp
theorem go_setT {v : Option Int} (h : AdS x tb rd l1 l2 n) (hs : DmS n s) (hc : Cls K (cS K)) (hn : NoAttr K (cS K) "table") (hi : i < n) (hj : j < n) (hx : es[0]? = some (.val (.ref x))) (he : EvX te es F0 (optD v) (fS K x tb rd l1 l2 n s)) (h1 : EvX ti es (fS K x tb rd l1 l2 n s) (.int (i : Int)) (fS K x tb rd l1 l2 n s)) (h2 : EvX tj es (fS K x tb rd l1 l2 n s) (.int (j : Int)) (fS K x tb rd l1 l2 n s))
    (k : Go Γ es (fS K x tb rd l1 l2 n ⟨setM s.T i j v, s.R⟩) (tz Dn)) : Go Γ es F0 (tSeq (tAsg te (gSub (tOp (rIxL K) (tFld K (tVar 0) "table") ti) tj rSetL)) tz Dn) := by
  obtain ⟨l, hl⟩ := get_some h.e1 hi
  obtain ⟨r, r1, r2, r3⟩ := row_at (d := none) (f := optD) hs.t hi hj
  refine go_setC he (evv_ixraw (evv_tab hx hc hn) h1 fS_tb (atI_nat hl)) h2 (fS_r1 hl r1) (ixN_nat (by rw [r2]; exact hj)) ?_
  rw [fS_T h hs hi hl r1]
  exact k
theorem go_setR {v : List Int} (h : AdS x tb rd l1 l2 n) (hs : DmS n s) (hc : Cls K (cS K)) (hn : NoAttr K (cS K) "roads") (hi : i < n) (hj : j < n) (hx : es[0]? = some (.val (.ref x))) (he : EvX te es F0 (roadD v) (fS K x tb rd l1 l2 n s)) (h1 : EvX ti es (fS K x tb rd l1 l2 n s) (.int (i : Int)) (fS K x tb rd l1 l2 n s)) (h2 : EvX tj es (fS K x tb rd l1 l2 n s) (.int (j : Int)) (fS K x tb rd l1 l2 n s))
    (k : Go Γ es (fS K x tb rd l1 l2 n ⟨s.T, setM s.R i j v⟩) (tz Dn)) : Go Γ es F0 (tSeq (tAsg te (gSub (tOp (rIxL K) (tFld K (tVar 0) "roads") ti) tj rSetL)) tz Dn) := by
  obtain ⟨l, hl⟩ := get_some h.e2 hi
  obtain ⟨r, r1, r2, r3⟩ := row_at (d := []) (f := roadD) hs.r hi hj
  refine go_setC he (evv_ixraw (evv_rds hx hc hn) h1 fS_rd (atI_nat hl)) h2 (fS_r2 hl r1) (ixN_nat (by rw [r2]; exact hj)) ?_
  rw [fS_R h hs hi hl r1]
  exact k
theorem rv_isN {o : Option Int} : RvX (fun x y H Q => y = .non ∧ Q (.bl (decide (x = .non))) H) (optD o) .non (.bl o.isNone) := rv_val fun v1 v2 G H Q r1 r2 e => by
  rw [rp_non r2]
  cases o with
  | none => rw [rp_non r1]; exact ⟨_, .bl _, fun q => ⟨rfl, q⟩⟩
  | some i => rw [rp_int r1]; exact ⟨_, .bl _, fun q => ⟨rfl, q⟩⟩
theorem rv_notN {o : Option Int} : RvX (fun x y H Q => y = .non ∧ Q (.bl (!decide (x = .non))) H) (optD o) .non (.bl o.isSome) := rv_val fun v1 v2 G H Q r1 r2 e => by
  rw [rp_non r2]
  cases o with
  | none => rw [rp_non r1]; exact ⟨_, .bl _, fun q => ⟨rfl, q⟩⟩
  | some i => rw [rp_int r1]; exact ⟨_, .bl _, fun q => ⟨rfl, q⟩⟩
end
/-! ### instances -/
inductive I_Spans_is_better (K : PySem.W.Frag) : Inst
  | mk (x tb rd : Addr) (l1 l2 : List Addr) (n : Nat) (s : SpS) (i j : Nat) (most : Int) (h : AdS x tb rd l1 l2 n) (hs : DmS n s) (hi : i < n) (hj : j < n) :
    I_Spans_is_better K [.val (.ref x), .dat (.int (i : Int)), .dat (.int (j : Int)), .dat (.int most)] (fS K x tb rd l1 l2 n s) (.bl (better (tAt s.T i j) most)) (fS K x tb rd l1 l2 n s)
inductive I_Spans_take (K : PySem.W.Frag) : InstE
  | ok (x tb rd : Addr) (l1 l2 : List Addr) (n : Nat) (s : SpS) (i j : Nat) (most : Int) (road : List Int) (h : AdS x tb rd l1 l2 n) (hs : DmS n s) (hi : i < n) (hj : j < n) (ne : i ≠ j) :
    I_Spans_take K [.val (.ref x), .dat (.int (i : Int)), .dat (.int (j : Int)), .dat (.int most), .dat (roadD road)] (fS K x tb rd l1 l2 n s) (.ret .non) (fS K x tb rd l1 l2 n (putS s i j most road))
  | err (x tb rd : Addr) (l1 l2 : List Addr) (n : Nat) (s : SpS) (i j : Nat) (most : Int) (road : List Int) (e : i = j) (hr : road ≠ []) :
    I_Spans_take K [.val (.ref x), .dat (.int (i : Int)), .dat (.int (j : Int)), .dat (.int most), .dat (roadD road)] (fS K x tb rd l1 l2 n s) (.exc (cNT K) ["ring"] [ringD road.dropLast]) (junk (fS K x tb rd l1 l2 n s))
inductive I_Spans_go_by (K : PySem.W.Frag) : InstE
  | ok (x tb rd : Addr) (l1 l2 : List Addr) (n L : Nat) (s s' : SpS) (mid : Nat) (h : AdS x tb rd l1 l2 n) (hs : SpR n L mid s) (hL : L ≤ 1000) (hn : n ≤ 8) (hm : mid < n) (e : goAt n mid s n = .ok s') :
    I_Spans_go_by K [.val (.ref x), .dat (.int (mid : Int))] (fS K x tb rd l1 l2 n s) (.ret .non) (fS K x tb rd l1 l2 n s')
  | err (x tb rd : Addr) (l1 l2 : List Addr) (n L : Nat) (s : SpS) (z : List Int) (mid : Nat) (h : AdS x tb rd l1 l2 n) (hs : SpR n L mid s) (hL : L ≤ 1000) (hn : n ≤ 8) (hm : mid < n) (e : goAt n mid s n = .error z) :
    I_Spans_go_by K [.val (.ref x), .dat (.int (mid : Int))] (fS K x tb rd l1 l2 n s) (.exc (cNT K) ["ring"] [ringD z]) (junk (fS K x tb rd l1 l2 n s))
abbrev dS (n : Nat) (s : SpS) : List D := [.int (n : Int), .lst ((s.T.map (·.map optD)).map D.lst), .lst ((s.R.map (·.map roadD)).map D.lst)]
abbrev aS (n : Nat) (s : SpS) : List En := [.dat (.int (n : Int)), .dat (.lst ((s.T.map (·.map optD)).map D.lst)), .dat (.lst ((s.R.map (·.map roadD)).map D.lst))]
abbrev tabD (s : SpS) : D := .lst ((s.T.map (·.map optD)).map D.lst)
inductive I_Spans___init__ (K : PySem.W.Frag) : InstE
  | ok (x : Addr) (n : Nat) (bs : List T3) (s : SpS) (h1 : 1 ≤ n) (hn : n ≤ 8) (hb : ∀ b ∈ bs, BndOk (n : Int) b) (hl : bs.length ≤ 100000) (e : spans n bs = .ok s) :
    I_Spans___init__ K [.val (.ref x), .dat (.int (n : Int)), .dat (.lst (bs.map e3))] [(x, .obj (cS K) [] [])] (.ret .non) [(x, .obj (cS K) nS (aS n s))]
  | err (x : Addr) (n : Nat) (bs : List T3) (z : List Int) (h1 : 1 ≤ n) (hn : n ≤ 8) (hb : ∀ b ∈ bs, BndOk (n : Int) b) (hl : bs.length ≤ 100000) (e : spans n bs = .error z) :
    I_Spans___init__ K [.val (.ref x), .dat (.int (n : Int)), .dat (.lst (bs.map e3))] [(x, .obj (cS K) [] [])] (.exc (cNT K) ["ring"] [ringD z]) [(x, .junk)]
def tightR (w : WebD) : Res := spans w.many.toNat (bounds w)
inductive I_tight (K : PySem.W.Frag) : InstE
  | ok (w : WebD) (s : SpS) (h : WF w) (e : tightR w = .ok s) : I_tight K [.dat (oW K w)] [] (.ret (tabD s)) []
  | err (w : WebD) (z : List Int) (h : WF w) (e : tightR w = .error z) : I_tight K [.dat (oW K w)] [] (.exc (cNT K) ["ring"] [ringD z]) []
end W
namespace W
open PySem L2 DL
def getS (d : SpS) (r : Res) : SpS := match r with | .ok s => s | .error _ => d
theorem getS_ok {d s : SpS} {r : Res} (h : r = .ok s) : getS d r = s := by rw [h]; rfl
theorem rowAt_err {mid i : Nat} {s : SpS} {z : List Int} {j : Nat} (h : rowAt mid i s j = .error z) : ∀ m, j ≤ m → rowAt mid i s m = .error z := by
  intro m hm
  induction hm with
  | refl => exact h
  | step _ ih =>
    show (rowAt mid i s _).bind _ = _
    rw [ih]; rfl
theorem goAt_err {n mid i : Nat} {s : SpS} {z : List Int} (h : goAt n mid s i = .error z) : ∀ m, i ≤ m → goAt n mid s m = .error z := by
  intro m hm
  induction hm with
  | refl => exact h
  | step _ ih =>
    show (goAt n mid s _).bind _ = _
    rw [ih]; rfl
theorem bndAt_err {n k : Nat} {bs : List T3} {z : List Int} (h : bndAt n bs k = .error z) : ∀ m, k ≤ m → bndAt n bs m = .error z := by
  intro m hm
  induction hm with
  | refl => exact h
  | step _ ih =>
    show (bndAt n bs _).bind _ = _
    rw [ih]; rfl
theorem midAt_err {n k : Nat} {bs : List T3} {z : List Int} (h : midAt n bs k = .error z) : ∀ m, k ≤ m → midAt n bs m = .error z := by
  intro m hm
  induction hm with
  | refl => exact h
  | step _ ih =>
    show (midAt n bs _).bind _ = _
    rw [ih]; rfl
theorem goAt_next {n mid i : Nat} {s s1 : SpS} (h : goAt n mid s i = .ok s1) : goAt n mid s (i + 1) = rowAt mid i s1 n := by
  show (goAt n mid s i).bind _ = _
  rw [h]; rfl
theorem rowAt_next {mid i j : Nat} {s s1 : SpS} (h : rowAt mid i s j = .ok s1) : rowAt mid i s (j + 1) = by1 s1 mid i j := by
  show (rowAt mid i s j).bind _ = _
  rw [h]; rfl
theorem bndAt_next {n k : Nat} {bs : List T3} {s1 : SpS} {b : T3} (h : bndAt n bs k = .ok s1) (hb : bs[k]? = some b) : bndAt n bs (k + 1) = bnd1 s1 b := by
  show (bndAt n bs k).bind _ = _
  rw [h]
  show (match bs[k]? with | some b => bnd1 s1 b | none => .ok s1) = _
  rw [hb]
theorem midAt_next {n m : Nat} {bs : List T3} {s1 : SpS} (h : midAt n bs m = .ok s1) : midAt n bs (m + 1) = goAt n m s1 n := by
  show (midAt n bs m).bind _ = _
  rw [h]; rfl
theorem go_by_cases {K : PySem.W.Frag} {as : List En} {F : Fs} {o : Out} {F' : Fs} (h : I_Spans_go_by K as F o F') : ∃ (x tb rd : Addr) (l1 l2 : List Addr) (n L : Nat) (s : SpS) (mid : Nat), AdS x tb rd l1 l2 n ∧ SpR n L mid s ∧ L ≤ 1000 ∧ n ≤ 8 ∧ mid < n ∧ as = [.val (.ref x), .dat (.int (mid : Int))] ∧ F = fS K x tb rd l1 l2 n s ∧
    (∀ s', goAt n mid s n = .ok s' → o = .ret .non ∧ F' = fS K x tb rd l1 l2 n s') ∧ (∀ z, goAt n mid s n = .error z → o = .exc (cNT K) ["ring"] [ringD z] ∧ F' = junk (fS K x tb rd l1 l2 n s)) := by
  cases h with
  | ok x tb rd l1 l2 n L s s' mid h hs hL hn hm e => exact ⟨x, tb, rd, l1, l2, n, L, s, mid, h, hs, hL, hn, hm, rfl, rfl, fun s2 e2 => by rw [e] at e2; cases e2; exact ⟨rfl, rfl⟩, fun z e2 => by rw [e] at e2; cases e2⟩
  | err x tb rd l1 l2 n L s z mid h hs hL hn hm e => exact ⟨x, tb, rd, l1, l2, n, L, s, mid, h, hs, hL, hn, hm, rfl, rfl, fun s2 e2 => (by rw [e] at e2; cases e2), fun z e2 => (by rw [e] at e2; cases e2; exact ⟨rfl, rfl⟩)⟩
theorem init_cases {K : PySem.W.Frag} {as : List En} {F : Fs} {o : Out} {F' : Fs} (h : I_Spans___init__ K as F o F') : ∃ (x : Addr) (n : Nat) (bs : List T3), 1 ≤ n ∧ n ≤ 8 ∧ (∀ b ∈ bs, BndOk (n : Int) b) ∧ bs.length ≤ 100000 ∧ as = [.val (.ref x), .dat (.int (n : Int)), .dat (.lst (bs.map e3))] ∧ F = [(x, .obj (cS K) [] [])] ∧
    (∀ s, spans n bs = .ok s → o = .ret .non ∧ F' = [(x, .obj (cS K) nS (aS n s))]) ∧ (∀ z, spans n bs = .error z → o = .exc (cNT K) ["ring"] [ringD z] ∧ F' = [(x, .junk)]) := by
  cases h with
  | ok x n bs s h1 hn hb hl e => exact ⟨x, n, bs, h1, hn, hb, hl, rfl, rfl, fun s2 e2 => by rw [e] at e2; cases e2; exact ⟨rfl, rfl⟩, fun z e2 => by rw [e] at e2; cases e2⟩
  | err x n bs z h1 hn hb hl e => exact ⟨x, n, bs, h1, hn, hb, hl, rfl, rfl, fun s2 e2 => (by rw [e] at e2; cases e2), fun z e2 => (by rw [e] at e2; cases e2; exact ⟨rfl, rfl⟩)⟩
end W
namespace DL
open PySem L2
section
variable {es : List En} {F F1 Fd Fd' : Fs} {tas : TA} {ta : TE} {as as' : List En} {a C Cx : Addr} {ns nx : List Str} {ds : List D}
theorem evx_methOn {I : Inst} {r : D} {E : XK} {mn : Str} (ho : EvV ta es F (.ref a) F1) (hm : (a, FO.obj C ns as') ∈ F1) (hn : mn ∉ ns) (ha : EvA tas es F1 as Fd) (hI : I (.val (.ref a) :: as) Fd r Fd') (he : ad Fd' = ad Fd) :
    EvX (tMeth C mn (spD I) [] E ta tas) es F r Fd' := by
  have h := evx_methO (R := []) (E := E) ho hm hn (by rw [List.append_nil]; exact ha) hI he
  rw [List.append_nil] at h
  exact h
theorem evx_methEn {I : InstE} {r : D} {E : XK} {mn : Str} (ho : EvV ta es F (.ref a) F1) (hm : (a, FO.obj C ns as') ∈ F1) (hn : mn ∉ ns) (ha : EvA tas es F1 as Fd) (hI : I (.val (.ref a) :: as) Fd (.ret r) Fd') (he : ad Fd' = ad Fd) :
    EvX (tMeth C mn (spE I) [] E ta tas) es F r Fd' := by
  have h := evx_methE (R := []) (E := E) ho hm hn (by rw [List.append_nil]; exact ha) hI he
  rw [List.append_nil] at h
  exact h
theorem eve_methEn {I : InstE} {E : XK} {mn : Str} (ho : EvV ta es F (.ref a) F1) (hm : (a, FO.obj C ns as') ∈ F1) (hn : mn ∉ ns) (ha : EvA tas es F1 as Fd) (hI : I (.val (.ref a) :: as) Fd (.exc Cx nx ds) Fd') (he : ad Fd' = ad Fd) :
    EvE (tMeth C mn (spE I) [] E ta tas) es F Cx nx ds Fd' (fun c d _ H => E c d H) := by
  have h := eve_methE (R := []) (E := E) ho hm hn (by rw [List.append_nil]; exact ha) hI he
  rw [List.append_nil] at h
  exact h
theorem cutD_init {ds : List D} : cutD ds none (some (-1)) = ds.dropLast := by
  have e : HT.sIx ds.length ds.length (some (-1)) = ds.length - 1 := by
    show (if (-1 : Int) < 0 then ((-1 : Int) + (ds.length : Int)).toNat else min (-1 : Int).toNat ds.length) = _
    rw [if_pos (by decide)]
    omega
  unfold cutD
  rw [e, HT.sIx_none, List.drop_zero, Nat.sub_zero, List.dropLast_eq_take]
theorem cutD_tail {ds : List D} : cutD ds (some 1) none = ds.tail := by
  have e : HT.sIx ds.length 0 (some 1) = min 1 ds.length := HT.sIx_nat _ _ 1
  unfold cutD
  rw [e, HT.sIx_none]
  cases ds with
  | nil => rfl
  | cons d ds =>
    have e2 : min 1 (d :: ds).length = 1 := by rw [List.length_cons]; omega
    rw [e2]
    show List.take (ds.length + 1 - 1) ds = ds
    rw [Nat.add_sub_cancel, List.take_length]
end
end DL
namespace DL
open PySem L2
open Evl (Ex)
section
variable {Γ : Cn} {es : List En} {F F1 F' R : Fs} {G H : Hp} {σ : L2.St} {P : L2.St → Hp → Prop} {te : TE} {ds ds' : List D}
theorem SF.perm {F F1 : Fs} {G H : Hp} (s : SF F G H) (p : F.Perm F1) : SF F1 G H := ⟨s.gh, fun q hq => s.sf q (p.mem_iff.mpr hq), (p.map _).nodup_iff.mp s.nd⟩
theorem ST.perm (s : ST Γ es F G H σ) (p : F.Perm F1) : ST Γ es F1 G H σ := ⟨⟨s.s.f.perm p, s.s.se⟩, s.g, fun a ha => s.fr a ((p.map _).mem_iff.mpr ha), s.kn⟩
theorem go_perm (p : F.Perm F1) (k : Go Γ es F1 P) : Go Γ es F P := fun G H σ st => k G H σ (st.perm p)
theorem EvN.toL (h : EvN te es F ds F') (e : ds = ds') : EvN te es F ds' F' := e ▸ h
theorem EvM.toN {n m : Nat} {row row' : List D} (h : EvM te es F n row) (e : n = m) (e2 : row = row') : EvM te es F m row' := by subst e e2; exact h
end
end DL
namespace W
open PySem L2 DL
open Evl (Ex)
section
variable {K : PySem.W.Frag} {x tb rd : Addr} {l1 l2 : List Addr} {n : Nat} {s : SpS} {es : List En} {Γ : Cn} {P : L2.St → Hp → Prop}
theorem fS_ad' (e1 : l1.length = n) (e2 : l2.length = n) (hs : DmS n s) : ad (fS K x tb rd l1 l2 n s) = x :: tb :: rd :: (l1 ++ l2) := by
  show x :: tb :: rd :: ad (zF l1 _ ++ zF l2 _) = _
  rw [ad_app, zF_ad (by rw [e1, List.length_map, hs.t.l]), zF_ad (by rw [e2, List.length_map, hs.r.l])]
theorem go_freezeS (h : AdS x tb rd l1 l2 n) (hs : DmS n s) (k : Go Γ es [(x, .obj (cS K) nS (aS n s))] P) : Go Γ es (fS K x tb rd l1 l2 n s) P := fun G H σ st => by
  have had := fS_ad (K := K) h hs
  have f0 : SF ([(x, FO.obj (cS K) nS [.dat (.int (n : Int)), .val (.ref tb), .val (.ref rd)]), (tb, .raw (.lst (l1.map V.ref))), (rd, .raw (.lst (l2.map V.ref)))] ++ (zF l1 (s.T.map (·.map optD)) ++ zF l2 (s.R.map (·.map roadD)))) G H := st.s.f
  obtain ⟨G1, f1, x1, y1, r1⟩ := SF.delZ (by rw [h.e1, List.length_map, hs.t.l]) f0
  have f1' : SF ([(x, FO.obj (cS K) nS [.dat (.int (n : Int)), .val (.ref tb), .val (.ref rd)]), (tb, .raw (.lst (l1.map V.ref))), (rd, .raw (.lst (l2.map V.ref)))] ++ (zF l2 (s.R.map (·.map roadD)) ++ [])) G1 H := by rw [List.append_nil]; exact f1
  obtain ⟨G2, f2, x2, y2, r2⟩ := SF.delZ (by rw [h.e2, List.length_map, hs.r.l]) f1'
  have f2' : SF ([(x, FO.obj (cS K) nS [.dat (.int (n : Int)), .val (.ref tb), .val (.ref rd)])] ++ (tb, FO.raw (.lst (l1.map V.ref))) :: [(rd, .raw (.lst (l2.map V.ref)))]) G2 H := f2
  obtain ⟨_, htb⟩ := f2'.sf (tb, .raw (.lst (l1.map V.ref))) (by simp)
  obtain ⟨f3, x3⟩ := f2'.del htb
  have f3' : SF ([(x, FO.obj (cS K) nS [.dat (.int (n : Int)), .val (.ref tb), .val (.ref rd)])] ++ (rd, FO.raw (.lst (l2.map V.ref))) :: []) (upd G2 tb (.lst (l1.map V.ref))) H := f3
  obtain ⟨_, hrd⟩ := f3'.sf (rd, .raw (.lst (l2.map V.ref))) (by simp)
  obtain ⟨f4, x4⟩ := f3'.del hrd
  have e04 : Ex G (upd (upd G2 tb (.lst (l1.map V.ref))) rd (.lst (l2.map V.ref))) := ((x1.trans x2).trans x3).trans x4
  have e24 := x3.trans x4
  have f5 : SF [(x, FO.obj (cS K) nS (aS n s))] (upd (upd G2 tb (.lst (l1.map V.ref))) rd (.lst (l2.map V.ref))) H := by
    refine ⟨f4.gh, fun q hq => ?_, by simp⟩
    have e : q = (x, FO.obj (cS K) nS (aS n s)) := by simpa using hq
    subst e
    obtain ⟨g0, dx, fs, h1, h2, h3⟩ := f4.sf (x, FO.obj (cS K) nS [.dat (.int (n : Int)), .val (.ref tb), .val (.ref rd)]) (by simp)
    refine ⟨g0, dx, fs, h1, h2, ?_⟩
    cases hfs : fs.map (·.2) with
    | nil => rw [hfs] at h3; cases h3
    | cons v0 vs =>
      rw [hfs] at h3
      cases h3 with
      | dat k1 k2 =>
        cases k2 with
        | val k2 =>
          cases k2 with
          | val k3 =>
            cases k3
            refine .dat k1 (.dat (.lst (x4 _ _ upd_same) (((r1.mono x2).mono x3).mono x4)) (.dat (.lst upd_same ((r2.mono x3).mono x4)) .nil))
  refine k _ H σ ⟨⟨f5, st.s.se.mono e04⟩, ⟨st.g.gg.trans e04, f5.gh, st.g.fr, fun a o na ha => ?_⟩, fun a ha => st.fr a ?_, fun p hp => ⟨e04 _ _ (st.kn p hp).1, (st.kn p hp).2.mono e04⟩⟩
  · have nf : a ∉ ad (fS K x tb rd l1 l2 n s) := fun z => by
      rcases st.fr a z with y | y
      · exact na y
      · rw [y] at ha; cases ha
    rw [had] at nf
    rw [upd_ne (fun z => nf (by rw [z]; simp)), upd_ne (fun z => nf (by rw [z]; simp)), y2 a (fun z => nf (by simp [z])), y1 a (fun z => nf (by simp [z]))]
    exact st.g.fz a o na ha
  · have e : a = x := by simpa [ad] using ha
    rw [had, e]; simp
theorem tight_cases {as : List En} {F : Fs} {o : Out} {F' : Fs} (h : I_tight K as F o F') : ∃ w : WebD, WF w ∧ as = [.dat (oW K w)] ∧ F = [] ∧ F' = [] ∧ (∀ s, tightR w = .ok s → o = .ret (tabD s)) ∧ (∀ z, tightR w = .error z → o = .exc (cNT K) ["ring"] [ringD z]) := by
  cases h with
  | ok w s h e => exact ⟨w, h, rfl, rfl, rfl, fun s2 e2 => (by rw [e] at e2; cases e2; rfl), fun z e2 => (by rw [e] at e2; cases e2)⟩
  | err w z h e => exact ⟨w, h, rfl, rfl, rfl, fun s2 e2 => (by rw [e] at e2; cases e2), fun z e2 => (by rw [e] at e2; cases e2; rfl)⟩
end
end W
set_option Elab.async false
set_option linter.all false
set_option maxRecDepth 100000
set_option maxHeartbeats 4000000
/-! what stands in the table at the end -/
namespace W
open PySem L2 DL
def Tri (n : Nat) (T : TT) (k : Nat) : Prop := ∀ i j, i < n → j < n → ∀ a b, tAt T i k = some a → tAt T k j = some b → ∃ c, tAt T i j = some c ∧ c ≤ a + b
structure RI (n m : Nat) (s s1 : SpS) (P : Nat → Nat → Prop) : Prop where
  row : ∀ i, tAt s1.T i m = tAt s.T i m
  col : ∀ j, tAt s1.T m j = tAt s.T m j
  r1 : ∀ i j c, tAt s1.T i j = some c → tAt s.T i j = some c ∨ ∃ a b, tAt s.T i m = some a ∧ tAt s.T m j = some b ∧ c = a + b
  r2 : ∀ i j c, tAt s.T i j = some c → ∃ c', tAt s1.T i j = some c' ∧ c' ≤ c
  r3 : ∀ i j, P i j → ∀ a b, tAt s.T i m = some a → tAt s.T m j = some b → ∃ c', tAt s1.T i j = some c' ∧ c' ≤ a + b
theorem RI.start {n m : Nat} {s : SpS} : RI n m s s (fun _ _ => False) := ⟨fun _ => rfl, fun _ => rfl, fun _ _ _ h => .inl h, fun _ _ c h => ⟨c, h, by omega⟩, fun _ _ h => h.elim⟩
theorem RI.imp {n m : Nat} {s s1 : SpS} {P Q : Nat → Nat → Prop} (r : RI n m s s1 P) (h : ∀ i j, Q i j → P i j) : RI n m s s1 Q := ⟨r.row, r.col, r.r1, r.r2, fun i j q => r.r3 i j (h i j q)⟩
theorem RI.step {n m i j : Nat} {s s1 s2 : SpS} {P : Nat → Nat → Prop} (r : RI n m s s1 P) (hd : tAt s.T m m = some 0) (ht : Dim n s1.T) (hm : m < n) (hi : i < n) (hj : j < n) (e : by1 s1 m i j = .ok s2) : RI n m s s2 (fun a b => P a b ∨ (a = i ∧ b = j)) := by
  have hd1 : tAt s1.T m m = some 0 := by rw [r.row]; exact hd
  unfold by1 at e
  split at e
  · rename_i a b h1 h2
    have h1' : tAt s.T i m = some a := by rw [← r.row]; exact h1
    have h2' : tAt s.T m j = some b := by rw [← r.col]; exact h2
    split at e
    · rename_i hb
      have hne := by1_ne (n := n) hd1 h1 h2 hb
      unfold takeS at e
      split at e
      · cases e
      · rename_i hij
        cases e
        have put : ∀ x y, tAt (putS s1 i j (a + b) (rAt s1.R i m ++ (rAt s1.R m j).tail)).T x y = if x = i ∧ y = j then some (a + b) else tAt s1.T x y := fun x y => tAt_put ht hi hj
        refine ⟨fun x => ?_, fun y => ?_, fun x y c h => ?_, fun x y c h => ?_, fun x y h a' b' ha hb' => ?_⟩
        · rw [put, if_neg (fun z => hne.2 z.2.symm)]; exact r.row x
        · rw [put, if_neg (fun z => hne.1 z.1.symm)]; exact r.col y
        · rw [put] at h
          split at h
          · rename_i z
            obtain ⟨rfl, rfl⟩ := z
            cases h
            exact .inr ⟨a, b, h1', h2', rfl⟩
          · exact r.r1 x y c h
        · rw [put]
          obtain ⟨c1, k1, k2⟩ := r.r2 x y c h
          by_cases z : x = i ∧ y = j
          · rw [if_pos z]
            obtain ⟨rfl, rfl⟩ := z
            refine ⟨_, rfl, ?_⟩
            rw [k1] at hb
            have : a + b < c1 := of_decide_eq_true hb
            omega
          · rw [if_neg z]; exact ⟨c1, k1, k2⟩
        · rw [put]
          by_cases z : x = i ∧ y = j
          · rw [if_pos z]
            obtain ⟨rfl, rfl⟩ := z
            rw [h1'] at ha
            rw [h2'] at hb'
            cases ha; cases hb'
            exact ⟨_, rfl, by omega⟩
          · rw [if_neg z]
            rcases h with h | h
            · exact r.r3 x y h a' b' ha hb'
            · exact absurd h z
    · rename_i hb
      cases e
      refine ⟨r.row, r.col, r.r1, r.r2, fun x y h a' b' ha hb' => ?_⟩
      rcases h with h | ⟨rfl, rfl⟩
      · exact r.r3 x y h a' b' ha hb'
      · rw [h1'] at ha
        rw [h2'] at hb'
        cases ha; cases hb'
        cases q : tAt s1.T x y with
        | none => rw [q] at hb; exact absurd rfl hb
        | some v =>
          rw [q] at hb
          refine ⟨v, rfl, ?_⟩
          have : ¬ (a + b < v) := fun z => hb (decide_eq_true z)
          omega
  · rename_i h
    cases e
    refine ⟨r.row, r.col, r.r1, r.r2, fun x y hp a' b' ha hb' => ?_⟩
    rcases hp with hp | ⟨rfl, rfl⟩
    · exact r.r3 x y hp a' b' ha hb'
    · rw [← r.row] at ha
      rw [← r.col] at hb'
      exact absurd hb' (h a' b' ha)
theorem rowAt_RI {n m i L : Nat} {s s1 : SpS} {P : Nat → Nat → Prop} (hs : SpR n L m s1) (r : RI n m s s1 P) (hd : tAt s.T m m = some 0) (hm : m < n) (hi : i < n) : ∀ (j : Nat) (s2 : SpS), j ≤ n → rowAt m i s1 j = .ok s2 → RI n m s s2 (fun a b => P a b ∨ (a = i ∧ b < j))
  | 0, s2, _, e => by
    have e2 : (Except.ok s1 : Res) = .ok s2 := e
    cases e2
    exact r.imp fun a b h => by
      rcases h with h | h
      · exact h
      · omega
  | j + 1, s2, hj, e => by
    cases hk : rowAt m i s1 j with
    | error z =>
      have e2 : (rowAt m i s1 j).bind (fun s => by1 s m i j) = .ok s2 := e
      rw [hk] at e2; cases e2
    | ok s3 =>
      rw [rowAt_next hk] at e
      have r3 := rowAt_RI hs r hd hm hi j s3 (by omega) hk
      have hs3 := rowAt_inv hs hm hi j s3 (by omega) hk
      refine (r3.step hd hs3.i.t hm hi (by omega) e).imp fun a b h => ?_
      rcases h with h | ⟨h1, h2⟩
      · exact .inl (.inl h)
      · by_cases z : b = j
        · exact .inr ⟨h1, z⟩
        · exact .inl (.inr ⟨h1, by omega⟩)
theorem goAt_RI {n m L : Nat} {s : SpS} (hs : SpR n L m s) (hm : m < n) : ∀ (i : Nat) (s2 : SpS), i ≤ n → goAt n m s i = .ok s2 → RI n m s s2 (fun a b => a < i ∧ b < n)
  | 0, s2, _, e => by
    have e2 : (Except.ok s : Res) = .ok s2 := e
    cases e2
    exact RI.start.imp fun a b h => by omega
  | i + 1, s2, hi, e => by
    cases hk : goAt n m s i with
    | error z =>
      have e2 : (goAt n m s i).bind (fun s => rowAt m i s n) = .ok s2 := e
      rw [hk] at e2; cases e2
    | ok s3 =>
      rw [goAt_next hk] at e
      have r3 := goAt_RI hs hm i s3 (by omega) hk
      have hs3 := goAt_inv hs hm i s3 (by omega) hk
      refine (rowAt_RI hs3 r3 (hs.i.d m hm) hm (by omega) n s2 (Nat.le_refl n) e).imp fun a b h => ?_
      by_cases z : a = i
      · exact .inr ⟨z, h.2⟩
      · exact .inl ⟨by omega, h.2⟩
/-- a round keeps what is closed, and closes its own -/
theorem round_tri {n m L : Nat} {s s' : SpS} (hs : SpR n L m s) (hm : m < n) (e : goAt n m s n = .ok s') (ht : ∀ k, k < m → Tri n s.T k) : ∀ k, k < m + 1 → Tri n s'.T k := by
  intro k hk i j hi hj a b ha hb
  have r := goAt_RI hs hm n s' (Nat.le_refl n) e
  have hd := hs.i.d m hm
  by_cases hkm : k = m
  · subst hkm
    rw [r.row] at ha
    rw [r.col] at hb
    exact r.r3 i j ⟨hi, hj⟩ a b ha hb
  · have T := ht k (by omega)
    have hkn : k < n := by omega
    rcases r.r1 i k a ha with h1 | ⟨a1, a2, h1, h2, rfl⟩
    · rcases r.r1 k j b hb with h3 | ⟨b1, b2, h3, h4, rfl⟩
      · obtain ⟨c, k1, k2⟩ := T i j hi hj a b h1 h3
        obtain ⟨c', k3, k4⟩ := r.r2 i j c k1
        exact ⟨c', k3, by omega⟩
      · obtain ⟨c, k1, k2⟩ := T i m hi hm a b1 h1 h3
        obtain ⟨c', k3, k4⟩ := r.r3 i j ⟨hi, hj⟩ c b2 k1 h4
        exact ⟨c', k3, by omega⟩
    · rcases r.r1 k j b hb with h3 | ⟨b1, b2, h3, h4, rfl⟩
      · obtain ⟨c, k1, k2⟩ := T m j hm hj a2 b h2 h3
        obtain ⟨c', k3, k4⟩ := r.r3 i j ⟨hi, hj⟩ a1 c h1 k1
        exact ⟨c', k3, by omega⟩
      · obtain ⟨c, k1, k2⟩ := T m m hm hm a2 b1 h2 h3
        rw [hd] at k1
        cases k1
        obtain ⟨c', k3, k4⟩ := r.r3 i j ⟨hi, hj⟩ a1 b2 h1 h4
        exact ⟨c', k3, by omega⟩
theorem bnd1_r2 {n : Nat} {s s' : SpS} {b : T3} (h : SpI n 2 s) (hb : BndOk (n : Int) b) (e : bnd1 s b = .ok s') : (∀ i j c, tAt s.T i j = some c → ∃ c', tAt s'.T i j = some c' ∧ c' ≤ c) ∧ (b.1 ≠ b.2.1 → ∃ c', tAt s'.T b.1.toNat b.2.1.toNat = some c' ∧ c' ≤ b.2.2) := by
  obtain ⟨h1, h2, h3, h4, _, _⟩ := hb
  unfold bnd1 at e
  split at e
  · cases e
  · split at e
    · rename_i h6
      cases e
      have put : ∀ x y, tAt (putS s b.1.toNat b.2.1.toNat b.2.2 [b.1, b.2.1]).T x y = if x = b.1.toNat ∧ y = b.2.1.toNat then some b.2.2 else tAt s.T x y := fun x y => tAt_put h.t (by omega) (by omega)
      refine ⟨fun i j c hc => ?_, fun _ => ?_⟩
      · rw [put]
        by_cases z : i = b.1.toNat ∧ j = b.2.1.toNat
        · rw [if_pos z]
          obtain ⟨rfl, rfl⟩ := z
          rw [hc] at h6
          have : b.2.2 < c := of_decide_eq_true h6.2
          exact ⟨_, rfl, by omega⟩
        · rw [if_neg z]; exact ⟨c, hc, by omega⟩
      · rw [put, if_pos ⟨rfl, rfl⟩]; exact ⟨_, rfl, by omega⟩
    · rename_i h6
      cases e
      refine ⟨fun i j c hc => ⟨c, hc, by omega⟩, fun ne => ?_⟩
      cases q : tAt s.T b.1.toNat b.2.1.toNat with
      | none => exact absurd ⟨ne, by rw [q]; rfl⟩ h6
      | some v =>
        refine ⟨v, rfl, ?_⟩
        have : ¬ (b.2.2 < v) := fun z => h6 ⟨ne, by rw [q]; exact decide_eq_true z⟩
        omega
theorem bndAt_le {n : Nat} {bs : List T3} (hb : ∀ b ∈ bs, BndOk (n : Int) b) : ∀ (k : Nat) (s : SpS), bndAt n bs k = .ok s → ∀ i b, i < k → bs[i]? = some b → b.1 ≠ b.2.1 → ∃ c, tAt s.T b.1.toNat b.2.1.toNat = some c ∧ c ≤ b.2.2
  | 0, s, _, i, b, hi, _, _ => by omega
  | k + 1, s, e, i, b, hi, hbi, ne => by
    cases hk : bndAt n bs k with
    | error z =>
      have e2 : (bndAt n bs k).bind (fun s => match bs[k]? with | some b => bnd1 s b | none => .ok s) = .ok s := e
      rw [hk] at e2; cases e2
    | ok s1 =>
      have h1 := bndAt_inv hb k s1 hk
      cases hbk : bs[k]? with
      | none =>
        have := List.getElem?_eq_none_iff.mp hbk
        have := (List.getElem?_eq_some_iff.mp hbi).1
        have e2 : (bndAt n bs k).bind (fun s => match bs[k]? with | some b => bnd1 s b | none => .ok s) = .ok s := e
        rw [hk] at e2
        have e3 : (match bs[k]? with | some b => bnd1 s1 b | none => .ok s1) = Except.ok s := e2
        rw [hbk] at e3
        cases e3
        exact bndAt_le hb k _ hk i b (by omega) hbi ne
      | some bk =>
        rw [bndAt_next hk hbk] at e
        obtain ⟨m1, m2⟩ := bnd1_r2 h1 (hb bk (List.mem_of_getElem? hbk)) e
        by_cases z : i = k
        · subst z
          rw [hbk] at hbi
          cases hbi
          exact m2 ne
        · obtain ⟨c, c1, c2⟩ := bndAt_le hb k s1 hk i b (by omega) hbi ne
          obtain ⟨c', c3, c4⟩ := m1 _ _ c c1
          exact ⟨c', c3, by omega⟩
theorem midAt_tri {n : Nat} {bs : List T3} (hb : ∀ b ∈ bs, BndOk (n : Int) b) : ∀ (m : Nat) (s : SpS), m ≤ n → midAt n bs m = .ok s → (∀ k, k < m → Tri n s.T k) ∧ ∀ b ∈ bs, b.1 ≠ b.2.1 → ∃ c, tAt s.T b.1.toNat b.2.1.toNat = some c ∧ c ≤ b.2.2
  | 0, s, _, e => ⟨fun k hk => by omega, fun b hbm ne => by
    obtain ⟨i, hi, e2⟩ := List.mem_iff_getElem.mp hbm
    exact bndAt_le hb bs.length s e i b hi (by rw [List.getElem?_eq_getElem hi, e2]) ne⟩
  | m + 1, s, hm, e => by
    cases hk : midAt n bs m with
    | error z =>
      have e2 : (midAt n bs m).bind (fun s => goAt n m s n) = .ok s := e
      rw [hk] at e2; cases e2
    | ok s1 =>
      rw [midAt_next hk] at e
      have ih := midAt_tri hb m s1 (by omega) hk
      have h1 := midAt_inv hb m s1 (by omega) hk
      refine ⟨round_tri h1.round (by omega) e ih.1, fun b hbm ne => ?_⟩
      obtain ⟨c, c1, c2⟩ := ih.2 b hbm ne
      obtain ⟨c', c3, c4⟩ := (goAt_RI h1.round (by omega) n s (Nat.le_refl n) e).r2 _ _ c c1
      exact ⟨c', c3, by omega⟩
/-- the table of a web that has times -/
structure TabOk (w : WebD) (n : Nat) (s : SpS) : Prop where
  inv : Dim n s.T
  tot : ∀ i j, i < n → j < n → ∃ v, tAt s.T i j = some v
  tri : ∀ i k j, i < n → k < n → j < n → (tAt s.T i j).getD 0 ≤ (tAt s.T i k).getD 0 + (tAt s.T k j).getD 0
  dia : ∀ i, i < n → tAt s.T i i = some 0
  bnd : ∀ b ∈ bounds w, b.1 ≠ b.2.1 → (tAt s.T b.1.toNat b.2.1.toNat).getD 0 ≤ b.2.2
theorem tight_ok {w : WebD} {s : SpS} (h : WF w) (e : tightR w = .ok s) : TabOk w w.many.toNat s := by
  have hm1 := h.m1
  have hbo := bounds_ok h
  have em : w.many = ((w.many.toNat : Nat) : Int) := by omega
  have hbo2 : ∀ b ∈ bounds w, BndOk ((w.many.toNat : Nat) : Int) b := fun b hb => by rw [← em]; exact hbo b hb
  have hi := midAt_inv hbo2 w.many.toNat s (Nat.le_refl _) e
  obtain ⟨ht, hb⟩ := midAt_tri hbo2 w.many.toNat s (Nat.le_refl _) e
  have h0 : ∀ m, 1 ≤ m → m < w.many.toNat → (0, (m : Int), w.last) ∈ bounds w ∧ ((m : Int), 0, 0) ∈ bounds w := fun m h1 h2 => by
    have key : ∀ b, b ∈ bndM1 w.last m → b ∈ bounds w := fun b hb => by
      unfold bounds bndM
      refine List.mem_append_left _ (List.mem_flatMap.mpr ⟨m - 1, List.mem_range.mpr (by omega), ?_⟩)
      rw [Nat.sub_add_cancel h1]; exact hb
    exact ⟨key _ (by simp [bndM1]), key _ (by simp [bndM1])⟩
  have tot0 : ∀ i, i < w.many.toNat → (∃ v, tAt s.T i 0 = some v) ∧ ∃ v, tAt s.T 0 i = some v := fun i hi2 => by
    by_cases z : i = 0
    · subst z; exact ⟨⟨0, hi.d 0 hi2⟩, 0, hi.d 0 hi2⟩
    · obtain ⟨k1, k2⟩ := h0 i (by omega) hi2
      obtain ⟨c1, d1, _⟩ := hb _ k1 (by dsimp only; omega)
      obtain ⟨c2, d2, _⟩ := hb _ k2 (by dsimp only; omega)
      exact ⟨⟨c2, d2⟩, c1, d1⟩
  have tot : ∀ i j, i < w.many.toNat → j < w.many.toNat → ∃ v, tAt s.T i j = some v := fun i j h1 h2 => by
    obtain ⟨a, ha⟩ := (tot0 i h1).1
    obtain ⟨b, hb2⟩ := (tot0 j h2).2
    obtain ⟨c, hc, _⟩ := ht 0 (by omega) i j h1 h2 a b ha hb2
    exact ⟨c, hc⟩
  refine ⟨hi.t, tot, fun i k j h1 h2 h3 => ?_, fun i h1 => hi.d i h1, fun b hbm ne => ?_⟩
  · obtain ⟨a, ha⟩ := tot i k h1 h2
    obtain ⟨b, hb2⟩ := tot k j h2 h3
    obtain ⟨c, hc, hle⟩ := ht k h2 i j h1 h3 a b ha hb2
    rw [ha, hb2, hc]
    exact hle
  · obtain ⟨c, hc, hle⟩ := hb b hbm ne
    rw [hc]; exact hle
end W
set_option Elab.async false
set_option linter.all false
set_option maxRecDepth 100000
set_option maxHeartbeats 4000000
/-! drawn webs are webs -/
namespace W
open PySem L2 DL
theorem fmod_two {x m : Int} (h0 : 0 ≤ x) (h1 : x < 2 * m) : x.fmod m = if x < m then x else x - m := by
  rw [Int.fmod_eq_emod_of_nonneg _ (by omega)]
  split
  · exact Int.emod_eq_of_lt h0 (by omega)
  · have e : x % m = (x - m) % m := by
      have : (x - m + m) % m = (x - m) % m := by simp
      rw [Int.sub_add_cancel] at this
      exact this
    rw [e]
    exact Int.emod_eq_of_lt (by omega) (by omega)
theorem named_eq {m many turn : Int} (h0 : 0 ≤ m) (h1 : m < many) (t0 : 0 ≤ turn) (t1 : turn < many) (h2 : 2 ≤ many) : named m many turn = if m = 0 then 0 else if m - 1 + turn < many - 1 then m + turn else m + turn - (many - 1) := by
  unfold named
  split
  · rfl
  · by_cases c : m - 1 + turn < 2 * (many - 1)
    · rw [fmod_two (by omega) c]
      split <;> omega
    · exfalso; omega
theorem named_range {m many turn : Int} (h0 : 0 ≤ m) (h1 : m < many) (t0 : 0 ≤ turn) (t1 : turn < many) (h2 : 2 ≤ many) : 0 ≤ named m many turn ∧ named m many turn < many ∧ (named m many turn = 0 → m = 0) := by
  rw [named_eq h0 h1 t0 t1 h2]
  split
  · omega
  · split <;> omega
theorem named_inj {a b many turn : Int} (a0 : 0 ≤ a) (a1 : a < many) (b0 : 0 ≤ b) (b1 : b < many) (t0 : 0 ≤ turn) (t1 : turn < many) (h2 : 2 ≤ many) (e : named a many turn = named b many turn) : a = b := by
  rw [named_eq a0 a1 t0 t1 h2, named_eq b0 b1 t0 t1 h2] at e
  split at e <;> split at e <;> (try split at e) <;> (try split at e) <;> omega
/-! ties -/
theorem times_range {ns : List Int} {k : Nat} {many last : Int} (hl : 1 ≤ last) : ∀ t ∈ ltimes ns k many last, 0 ≤ t ∧ t ≤ last := by
  intro t ht
  rw [ltimes_eq] at ht
  rcases List.mem_cons.mp ht with e | e
  · subst e; omega
  · rw [timesAt_eq] at e
    obtain ⟨i, _, e⟩ := List.mem_map.mp e
    have := nxt_range (ns := ns) (k := k + i) (m := last + 1) (by omega)
    omega
theorem getD_range {ts : List Int} {last : Int} (h : ∀ t ∈ ts, 0 ≤ t ∧ t ≤ last) (hl : 1 ≤ last) (i : Nat) : 0 ≤ ts.getD i 0 ∧ ts.getD i 0 ≤ last := by
  rw [List.getD_eq_getElem?_getD]
  cases q : ts[i]? with
  | none => exact ⟨Int.le_refl _, by show (0 : Int) ≤ last; omega⟩
  | some t => exact h t (List.mem_of_getElem? q)
theorem tnear_range {ns : List Int} {k : Nat} {many last : Int} {ts : List Int} (h : ∀ t ∈ ts, 0 ≤ t ∧ t ≤ last) (hl : 1 ≤ last) : -last ≤ (tnear ns k many last ts).1 ∧ (tnear ns k many last ts).1 ≤ last := by
  unfold tnear
  split
  · have := nxt_range (ns := ns) (k := k + 3) (m := 2 * last + 1) (by omega)
    dsimp only
    omega
  · have h1 := getD_range h hl (tother ns k many).toNat
    have h2 := getD_range h hl (nxt ns k many).toNat
    dsimp only
    omega
theorem tie1_ok {ns : List Int} {k : Nat} {many last wide : Int} {ts : List Int} (hm : 2 ≤ many) (hl : 1 ≤ last) (hl2 : last ≤ 60) (hw : 1 ≤ wide) (h : ∀ t ∈ ts, 0 ≤ t ∧ t ≤ last) : TieOk many (tie1 ns k many last wide ts).1 := by
  have h1 := nxt_range (ns := ns) (k := k) (m := many) (by omega)
  have h2 := nxt_range (ns := ns) (k := k + 1) (m := many - 1) (by omega)
  have h3 := tnear_range (ns := ns) (k := k) (many := many) h hl
  have h4 := nxt_range (ns := ns) (k := (tnear ns k many last ts).2) (m := wide + 1) (by omega)
  have h5 := nxt_range (ns := ns) (k := (tnear ns k many last ts).2 + 1) (m := wide + 1) (by omega)
  rw [tie1_eq]
  have ho : tother ns k many = if nxt ns k many + 1 + nxt ns (k + 1) (many - 1) < many then nxt ns k many + 1 + nxt ns (k + 1) (many - 1) else nxt ns k many + 1 + nxt ns (k + 1) (many - 1) - many := by
    rw [tother_eq]
    exact fmod_two (by omega) (by omega)
  refine ⟨⟨?_, ?_, ?_, ?_, ?_⟩, ?_, ?_, ?_⟩ <;> dsimp only
  · omega
  · omega
  · rw [ho]; split <;> omega
  · rw [ho]; split <;> omega
  · rw [ho]; split <;> omega
  · omega
  · omega
  · omega
theorem tiesAt_ok {ns : List Int} {k : Nat} {many last wide : Int} {ts : List Int} (hm : 2 ≤ many) (hl : 1 ≤ last) (hl2 : last ≤ 60) (hw : 1 ≤ wide) (h : ∀ t ∈ ts, 0 ≤ t ∧ t ≤ last) : ∀ i, ∀ t ∈ (tiesAt ns k many last wide ts i).1, TieOk many t
  | 0, t, ht => by rw [tiesAt_0] at ht; simp at ht
  | i + 1, t, ht => by
    rw [tiesAt_s] at ht
    rcases List.mem_append.mp ht with z | z
    · exact tiesAt_ok hm hl hl2 hw h i t z
    · have e := List.mem_singleton.mp z
      rw [e]
      exact tie1_ok hm hl hl2 hw h
/-! falls -/
structure FRaw (many count : Int) (i : Nat) (t : T4) : Prop where
  o0 : 0 ≤ t.1
  o1 : t.1 < many - count
  e : ∃ j : Nat, j < i ∧ t.2.1 = many - 1 - (j : Int)
  lo : 1 ≤ t.2.2.1
  le : t.2.2.1 ≤ t.2.2.2
  hi : t.2.2.2 ≤ 60
theorem fallsAt_ok {ns : List Int} {k : Nat} {many wide count : Int} (hc : count < many) (hw : 1 ≤ wide) (hw2 : wide ≤ 8) : ∀ i, (∀ t ∈ (fallsAt ns k many wide count i).1, FRaw many count i t) ∧ (fallsAt ns k many wide count i).1.map (·.2.1) = (List.range i).map fun j : Nat => many - 1 - (j : Int)
  | 0 => ⟨fun t ht => by rw [fallsAt_0] at ht; simp at ht, by rw [fallsAt_0]; rfl⟩
  | i + 1 => by
    obtain ⟨ih1, ih2⟩ := fallsAt_ok (ns := ns) (k := k) hc hw hw2 i
    have hs := fspan_range (ns := ns) (k := (fallsAt ns k many wide count i).2) hw hw2
    have h1 := nxt_range (ns := ns) (k := (fspan ns (fallsAt ns k many wide count i).2 wide).2) (m := many - count) (by omega)
    rw [fallsAt_s]
    refine ⟨fun t ht => ?_, ?_⟩
    · rcases List.mem_append.mp ht with z | z
      · obtain ⟨a, b, ⟨j, hj, e⟩, c, d, f⟩ := ih1 t z
        exact ⟨a, b, ⟨j, by omega, e⟩, c, d, f⟩
      · have e := List.mem_singleton.mp z
        rw [e, fall1_eq]
        exact ⟨h1.1, h1.2, ⟨i, by omega, rfl⟩, hs.1, hs.2.1, hs.2.2⟩
    · show ((fallsAt ns k many wide count i).1 ++ [_]).map _ = _
      rw [List.map_append, ih2, List.range_succ, List.map_append, fall1_eq]
      rfl
theorem web_ok {ns : List Int} {k : Nat} {most last wide : Int} (h1 : 2 ≤ most) (h2 : most ≤ 8) (h3 : 1 ≤ wide) (h4 : wide ≤ 8) (h5 : 1 ≤ last) (h6 : last ≤ 60) : WF (lawWeb ns k most last wide).1 := by
  have hm := lwMany_range (ns := ns) (k := k) h1
  have hl := lwLast_range (ns := ns) (k := k) h5
  have htl := ties_len (ns := ns) (k := (lwF ns k most wide).2) (many := lwMany ns k most) (last := lwLast ns k last) (wide := wide)
  have hfl := falls_len (ns := ns) (k := k + 2) (many := lwMany ns k most) (wide := wide) (by omega) (by omega)
  rw [← lwT_eq] at htl
  rw [← lwF_eq] at hfl
  have ht : ∀ t ∈ (lwT ns k most last wide).1, TieOk (lwMany ns k most) t := by
    rw [lwT_eq, ties_eq]
    exact tiesAt_ok (by omega) (by omega) (by omega) h3 (times_range (by omega)) _
  have hc := fcount_range (ns := ns) (k := k + 2) (many := lwMany ns k most) (wide := wide) (by omega)
  obtain ⟨hf, hfe⟩ := fallsAt_ok (ns := ns) (k := (fcount ns (k + 2) (lwMany ns k most) wide).2) (many := lwMany ns k most) (wide := wide) (count := (fcount ns (k + 2) (lwMany ns k most) wide).1) hc.2 h3 h4 (fcount ns (k + 2) (lwMany ns k most) wide).1.toNat
  rw [← falls_eq, ← lwF_eq] at hf hfe
  have htu : 0 ≤ lwTurn ns k most last wide ∧ lwTurn ns k most last wide < lwMany ns k most := by
    rw [lwTurn_eq]; exact nxt_range (by omega)
  rw [lawWeb_eq]
  generalize lwMany ns k most = many at *
  generalize lwLast ns k last = la at *
  generalize lwTurn ns k most last wide = turn at *
  generalize (lwT ns k most last wide).1 = ts at *
  generalize (lwF ns k most wide).1 = fs at *
  generalize (fcount ns (k + 2) many wide).1 = count at *
  obtain ⟨tu0, tu1⟩ := htu
  have hn : ∀ x, 0 ≤ x → x < many → 0 ≤ named x many turn ∧ named x many turn < many ∧ (named x many turn = 0 → x = 0) := fun x a b => named_range a b tu0 tu1 (by omega)
  have hj : ∀ x y, 0 ≤ x → x < many → 0 ≤ y → y < many → named x many turn = named y many turn → x = y := fun x y a b c d e => named_inj a b c d tu0 tu1 (by omega) e
  have fr : ∀ t ∈ fs, 0 ≤ t.1 ∧ t.1 < many - count ∧ many - count ≤ t.2.1 ∧ t.2.1 < many := fun t h => by
    obtain ⟨a, b, ⟨j, hj2, e⟩, _, _, _⟩ := hf t h
    omega
  have hends : ends ⟨many, la, ts.map (nm4 many turn), fs.map (nm4 many turn)⟩ = (fs.map (·.2.1)).map fun x => named x many turn := by
    unfold ends
    dsimp only
    rw [List.map_map, List.map_map]
    rfl
  refine ⟨by dsimp only; omega, by dsimp only; omega, by dsimp only; omega, by dsimp only; omega, by dsimp only; rw [List.length_map]; omega, by dsimp only; rw [List.length_map]; omega, fun t h => ?_, fun t h => ?_, ?_⟩
  · dsimp only at h ⊢
    obtain ⟨t0, h0, e⟩ := List.mem_map.mp h
    subst e
    obtain ⟨⟨p1, p2, p3, p4, p5⟩, q1, q2, q3⟩ := ht t0 h0
    have n1 := hn t0.1 p1 p2
    have n2 := hn t0.2.1 p3 p4
    exact ⟨⟨n1.1, n1.2.1, n2.1, n2.2.1, fun e => p5 (hj _ _ p1 p2 p3 p4 e)⟩, q1, q2, q3⟩
  · rw [hends]
    dsimp only at h ⊢
    obtain ⟨t0, h0, e⟩ := List.mem_map.mp h
    subst e
    obtain ⟨p1, p2, ⟨j, j1, j2⟩, q1, q2, q3⟩ := hf t0 h0
    obtain ⟨r1, r2, r3, r4⟩ := fr t0 h0
    have n1 := hn t0.1 (by omega) (by omega)
    have n2 := hn t0.2.1 (by omega) (by omega)
    refine ⟨⟨n1.1, n1.2.1, n2.1, n2.2.1, fun e => ?_⟩, fun e => ?_, fun e => ?_, q1, q2, q3⟩
    · have := hj _ _ (by omega) (by omega) (by omega) (by omega) e
      omega
    · have := n2.2.2 e
      omega
    · obtain ⟨y, hy, e2⟩ := List.mem_map.mp e
      obtain ⟨t1, ht1, e3⟩ := List.mem_map.mp hy
      obtain ⟨s1, s2, s3, s4⟩ := fr t1 ht1
      subst e3
      have e4 : named t1.2.1 many turn = named t0.1 many turn := e2
      have := hj _ _ (by omega) (by omega) (by omega) (by omega) e4
      omega
  · rw [hends, hfe]
    rw [List.map_map]
    refine List.pairwise_iff_getElem.mpr fun i j hi hj2 hij e => ?_
    simp only [List.length_map, List.length_range] at hi hj2
    simp only [List.getElem_map, List.getElem_range, Function.comp] at e
    have := hj _ _ (by omega) (by omega) (by omega) (by omega) e
    omega
end W
set_option Elab.async false
set_option linter.all false
set_option maxRecDepth 100000
set_option maxHeartbeats 4000000
namespace DL
open PySem PySem.Spec L2 PyProof.Rows
open Evl (Ex)
def spLaw (K : PySem.W.Frag) : Sp := fun vs H Q _ => ∃ (a : Addr) (ns : List Int), vs = [.ref a] ∧ ns.length ≤ 63 ∧ SqL K H a (ns.map V.int) ∧ ∀ H', Q (.bl true) H'
section
variable {Γ : Cn} {es : List En} {F : Fs} {G H : Hp} {σ : L2.St} {K : PySem.W.Frag} {sa : Addr} {ns : List Int} {i i0 : Nat} {Dn : Ends} {tz t : TS} {Q : VK} {N : List Str}
/-- d = [script, 0] -/
theorem go_dice (hx : es[i0]? = some (.val (.ref sa))) (hq : SqL K Γ.G sa (ns.map V.int)) (k : ∀ d, Go Γ (es.set i (.val (.ref d))) (F ++ [(d, .dice K sa ns 0)]) (tz Dn)) : Go Γ es F (tSeq (tAsg (tLst (tCons (tVar i0) (tCons (tC (.int 0)) tNil))) (gName i)) tz Dn) := fun G H σ st => by
  refine ⟨_, slot_val st.s.se hx, Evl.sz_of (by show 2 ≤ 100000; omega), fun p hp => ?_⟩
  have sq : SqL K G sa (ns.map V.int) := Evl.ex_l st.g.gg hq
  have g1 : Gro [] G H G (upd H p (.lst [.ref sa, .int 0])) := gro_laid st.s.gex hp
  refine k p G _ _ ⟨⟨st.s.f.newOwn (f := .dice K sa ns 0) hp ⟨upd_same, sq⟩, st.s.se.set (e := .val (.ref p)) rfl i⟩, st.g.trans g1 (fun x h => by cases h), fun a ha => ?_, st.kn⟩
  rw [ad_app] at ha
  rcases List.mem_append.mp ha with z | z
  · exact st.fr a z
  · have e : a = p := by simpa [ad] using z
    subst e
    exact (nd_free st hp).symm
theorem enterLaw (hl : 1 ≤ N.length) (hs : SqL K H sa (ns.map V.int)) (hQ : ∀ H', Q (.bl true) H')
    (k : ∀ Γ : Cn, SqL K Γ.G sa (ns.map V.int) → ∀ Dn : Ends, Ret Γ [] (.bl true) Dn.rt → Go Γ (.val (.ref sa) :: List.replicate (N.length - 1) .unk) [] (t Dn)) : t { nx := fun _ H' => Q .non H', rt := Q } (L2.start N [.ref sa]) H := by
  refine k ⟨[], H, H, []⟩ hs ⟨fun _ H' => Q .non H', Q, _, _⟩ (fun v G2 H2 _ _ r => by rw [rp_bl r]; exact hQ H2) H H _ ⟨⟨SF.nil (Evl.Ex.refl H), ?_⟩, .refl (Evl.Ex.refl H), fun a ha => (by cases ha), fun p hp => (by cases hp)⟩
  exact start_se (N := N) (vs := [.ref sa]) (as := [.val (.ref sa)]) (.val .nil) hl
end
end DL
namespace DL
open L2
theorem go_first {Γ : Cn} {es : List En} {F : Fs} {t tz : TS} {Dn : Ends} (h : Go Γ es F (t { Dn with nx := tz Dn })) : Go Γ es F (tSeq t tz Dn) := h
end DL
namespace DL
open PySem L2 PyProof.Rows
def oexB (K : PySem.W.Frag) (C : Addr) : Bool := (match K.lookup C with
  | some ⟨.type "type", _, .cls cd, sl⟩ => (match cd.mro, sl.toList with
    | .ref C' :: bm, [_, _, _, _, some (.builtin n), _] => C' == C && n == "ValueError.__new__" && !cd.hasDel && cd.hasDict && PySem.HandSPX.refsVE bm
    | _, _ => false)
  | _ => false) && (decide (PySem.W.findIn K (.ref C) "__setattr__" = some (some (.builtin "object.__setattr__"))) && (decide (PySem.W.subIn K (.ref C) (.type "BaseException") = some true) && (decide (PySem.W.typeIn K (.ref C) = some (.type "type")) && PySem.W.keepIn K (.ref C))))
theorem oexB_ok {K : PySem.W.Frag} {C : Addr} (q0 : oexB K C = true) : OexC K C := by
  unfold oexB at q0
  obtain ⟨q, r⟩ := Bool.and_eq_true_iff.mp q0
  obtain ⟨r1, r⟩ := Bool.and_eq_true_iff.mp r
  obtain ⟨r2, r⟩ := Bool.and_eq_true_iff.mp r
  obtain ⟨r3, r4⟩ := Bool.and_eq_true_iff.mp r
  refine ⟨?_, of_decide_eq_true r1, of_decide_eq_true r2, of_decide_eq_true r3, r4⟩
  split at q
  · rename_i dd cd sl ho
    split at q
    · rename_i C' bm k0 k1 k2 k3 n k5 hm hs
      simp only [Bool.and_eq_true, beq_iff_eq, Bool.not_eq_true'] at q
      obtain ⟨⟨⟨⟨rfl, rfl⟩, hdel⟩, hdict⟩, ht⟩ := q
      obtain ⟨nm, bs, mro, ns, qn, hd, sn, sub, ab, col, del⟩ := cd
      dsimp only at hm hdel hdict
      subst hm hdel hdict
      have hsl : sl = #[k0, k1, k2, k3, some (.builtin "ValueError.__new__"), k5] := by
        obtain ⟨l⟩ := sl
        simp only at hs
        rw [hs]
      subst hsl
      exact ⟨nm, qn, ns, bs, bm, sn, sub, ab, col, dd, k0, k1, k2, k3, k5, ho, ht⟩
    · cases q
  · cases q
def baseB (K : PySem.W.Frag) (ME : Addr) : Bool := decide (PySem.W.specialIn K (.ref ME) "__getattribute__" = some (some (.builtin "type.__getattribute__"))) && (decide (PySem.W.typeIn K (.ref ME) = some (.type "type")) && (PySem.W.readsIn K ME (.type "type") &&
  (match PySem.W.findCls K (.ref ME) (.type "type") "__init__" with | some (.val (.builtin n)) => n == "ValueError.__init__" | _ => false)))
theorem baseB_ok {K : PySem.W.Frag} {ME : Addr} (q : baseB K ME = true) : BaseI K ME (.type "type") := by
  unfold baseB at q
  obtain ⟨q1, q⟩ := Bool.and_eq_true_iff.mp q
  obtain ⟨q2, q⟩ := Bool.and_eq_true_iff.mp q
  obtain ⟨q3, q4⟩ := Bool.and_eq_true_iff.mp q
  refine ⟨of_decide_eq_true q1, of_decide_eq_true q2, q3, ?_⟩
  split at q4
  · rename_i n h
    rw [h, beq_iff_eq.mp q4]
  · cases q4
end DL
set_option Elab.async false
set_option linter.all false
set_option maxRecDepth 100000
set_option maxHeartbeats 4000000
/-! a hook whose part holds the statics, too, and which looks at a further Bool -/
namespace DL
open PySem L2
abbrev AlC : Type := He.AlD × Bool
def frC (g : Addr → Option Obj) (n : Nat) : PySem.W.Frag := He.frG g (He.asD g n ++ [cStatics])
def obsC (n : Nat) (fa : List He.Fa) (fn : List He.DefD) (ex : PySem.W.Frag → Bool) (g : Addr → Option Obj) : AlC := (He.obsD fa fn (frC g n), ex (frC g n))
structure SaysC (fa : List He.Fa) (fn : List He.DefD) (ex : PySem.W.Frag → Bool) (K : PySem.W.Frag) : Prop where
  d : He.SaysD fa fn K
  more : ex K = true
def hookC (n : Nat) (fa : List He.Fa) (fn : List He.DefD) (ex : PySem.W.Frag → Bool) : PySem.W.Hook where
  α := AlC
  obs := fun s => obsC n fa fn ex s.heap.get?
  val := fun _ => (He.valD fn, true)
  says := fun _ h => ∃ K : PySem.W.Frag, K.In h ∧ SaysC fa fn ex K
  of := fun _ _ e => ⟨_, He.frG_in, congrArg (fun z : AlC => z.1) e, congrArg (fun z : AlC => z.2) e⟩
  keeps := fun _ _ _ ⟨K, hK, c⟩ k => ⟨K, PySem.W.Frag.In.keeps hK k, c⟩
theorem obsC_eq {n : Nat} {fa : List He.Fa} {fn : List He.DefD} {ex : PySem.W.Frag → Bool} {g : Addr → Option Obj} {s : Shared} (h : ∀ a, g a = s.heap.get? a) : obsC n fa fn ex g = (hookC n fa fn ex).obs s := by
  have e : g = s.heap.get? := funext h
  rw [e] <;> rfl
end DL
set_option Elab.async false
set_option linter.all false
set_option maxRecDepth 100000
set_option maxHeartbeats 4000000
namespace W
open PySem PySem.Spec PyProof.Rows L2 DL
local macro_rules | `(tactic| walk_at "inst") => `(tactic| (constructor <;> first | assumption | omega))
local macro_rules | `(tactic| walk_at "rvx") => `(tactic| first
  | with_reducible exact rv_I0 | with_reducible exact rv_B0 | with_reducible exact rv_eq_int | with_reducible exact rv_ne_int | with_reducible exact rv_eq_str | with_reducible exact rv_in | with_reducible exact rv_notin | with_reducible exact rv_ne_str
  | ((with_reducible apply rv_ixT); exact rfl) | ((with_reducible apply rv_ixL); exact rfl) | ((with_reducible apply rv_I); first | omega | exact Or.inl (by omega)) | ((with_reducible apply rv_cat); simp <;> omega))
local macro_rules | `(tactic| walk_at "rcx") => `(tactic| first
  | with_reducible exact rc_min2 | with_reducible exact rc_max2 | with_reducible exact rc_lenL | with_reducible exact rc_lenT | with_reducible exact rc_listL | with_reducible exact rc_listT | with_reducible exact rc_tupL | with_reducible exact rc_intB)
local macro_rules | `(tactic| walk_at "eva") => `(tactic| first
  | with_reducible exact eva_nil
  | ((with_reducible apply eva_val); (focus ((with_reducible apply evv_var); exact rfl)); (focus (walk_at "eva")))
  | ((with_reducible apply eva_dat); (focus (walk_at "evx")); (focus (walk_at "eva"))))
local macro_rules | `(tactic| walk_at "evx") => `(tactic| first
  | with_reducible exact evx_int | with_reducible exact evx_str | with_reducible exact evx_bl | with_reducible exact evx_non | ((with_reducible apply evx_var); exact rfl)
  | ((with_reducible apply evx_fldO); (focus ((with_reducible apply evv_var); exact rfl)); (focus exact List.mem_cons_self); (focus assumption); (focus assumption); (focus exact rfl))
  | ((with_reducible apply evx_fld); (focus (walk_at "evx")); (focus assumption); (focus assumption); (focus exact rfl))
  | ((with_reducible apply evx_op); (focus (walk_at "evx")); (focus (walk_at "evx")); (focus (walk_at "rvx")))
  | ((with_reducible apply evx_next); (focus assumption); (focus (walk_at "eva")); (focus omega); (focus omega))
  | ((with_reducible apply evx_cb); (focus (walk_at "eva")); (focus (walk_at "rcx")))
  | ((with_reducible apply evx_tup); (focus (walk_at "eva")); (focus exact rfl); (focus simp))
  | ((with_reducible apply evx_lst); (focus (walk_at "eva")); (focus exact rfl); (focus simp))
  | ((with_reducible apply evx_chain); (focus (walk_at "evx")); (focus (walk_at "evx")); (focus (walk_at "evx")))
  | ((with_reducible apply evx_notV); (focus (walk_at "evx")))
  | ((with_reducible apply evx_call0); (focus (walk_at "eva")); (focus (walk_at "inst")))
  | ((with_reducible apply evx_call1); (focus (walk_at "eva")); (focus (walk_at "inst")))
  | ((with_reducible apply evx_un); (focus (walk_at "evx"))))
local macro_rules | `(tactic| walk_at "evt") => `(tactic| first
  | ((with_reducible apply evt_test); walk_at "evx") | ((with_reducible apply evt_B); walk_at "evx") | ((with_reducible apply evt_not); walk_at "evt"))
local macro_rules | `(tactic| walk_at "nrm") => `(tactic| ((try (conv => arg 2; simp only [List.set_cons_zero, List.set_cons_succ, List.cons_append, List.nil_append, List.length_cons, List.length_nil, List.replicate, Nat.add_assoc, Nat.reduceAdd])); (try (conv => arg 3; simp only [List.cons_append, List.nil_append, Nat.add_assoc, Nat.reduceAdd]))))
local macro_rules | `(tactic| walk_at "asg") => `(tactic| (refine go_asg (by walk_at "evx") ?_; walk_at "nrm"))
def topS (i : Nat) : Stmt := PySem.Challenge.pw_momentties_k04_whole_each_span_is_met.main.body.getD i (.Pass ⟨0, 0, 0, 0⟩)
structure Tx (K : PySem.W.Frag) (mg : Str → Option Value) : Prop where
  MOST_MOMENTS_ : ∃ t, mg "MOST_MOMENTS" = some (.int 8 t)
  MOST_TIME_ : ∃ t, mg "MOST_TIME" = some (.int 60 t)
  bool_ : mg "bool" = none
  int_ : mg "int" = none
  isinstance_ : mg "isinstance" = none
  len_ : mg "len" = none
  list_ : mg "list" = none
  max_ : mg "max" = none
  min_ : mg "min" = none
  range_ : mg "range" = none
  gm_MomentError : mg "MomentError" = some (.ref (He.ga K "MomentError"))
  gm_NoTimes : mg "NoTimes" = some (.ref (He.ga K "NoTimes"))
  bi_MomentError : BaseI K (He.ga K "MomentError") (.type "type")
  xn_NoTimes_ring : PySem.W.findIn K (.ref (He.ga K "NoTimes")) "ring" = some none
  xm_NoTimes : PySem.W.exmOne K (.ref (He.ga K "NoTimes")) (.ref (He.ga K "NoTimes")) = some true
  cl_Spans : Cls K (He.ga K "Spans")
  cl_Web : Cls K (He.ga K "Web")
  na_Spans_many : NoAttr K (He.ga K "Spans") "many"
  na_Spans_roads : NoAttr K (He.ga K "Spans") "roads"
  na_Spans_table : NoAttr K (He.ga K "Spans") "table"
  na_Web_falling : NoAttr K (He.ga K "Web") "falling"
  na_Web_last : NoAttr K (He.ga K "Web") "last"
  na_Web_many : NoAttr K (He.ga K "Web") "many"
  na_Web_tied : NoAttr K (He.ga K "Web") "tied"
section
variable {P : Program} {w : World} {K : PySem.W.Frag} {mg : Str → Option Value} {base : Heap}
abbrev names__law_next : List Str := ["_law_dice", "_law_many"]
theorem sc__law_next : FnScope names__law_next ["_law_dice", "_law_many"] (defScope (topS 13)) := ⟨rfl, rfl, rfl, by decide +kernel, rfl, by decide +kernel, by decide +kernel⟩
theorem ok__law_next (T : Tx K mg) {f : Addr} {fd : FuncData} (F : FunD K "_law_next" "_law_next" (defArgs (topS 13)) (defBody (topS 13)) (defScope (topS 13)) [] [] f fd) (gm : mg "_law_next" = some (.ref f))  : Cal P w K mg base CX0 1 "_law_next" (spNext K) := by
  have nd := sc__law_next.nd
  have hcl_Spans := T.cl_Spans
  have hcl_Web := T.cl_Web
  have hna_Spans_many := T.na_Spans_many
  have hna_Spans_roads := T.na_Spans_roads
  have hna_Spans_table := T.na_Spans_table
  have hna_Web_falling := T.na_Web_falling
  have hna_Web_last := T.na_Web_last
  have hna_Web_many := T.na_Web_many
  have hna_Web_tied := T.na_Web_tied
  refine ⟨f, fd, _, F.ok sc__law_next ?len (fun cdv A outer s H vs Q E hr h => ?body), gm, F.kp, (F.bindsN fun _ _ _ _ _ _ us hl => match us, hl with | [_, _], _ => rfl)⟩
  case len => rintro vs H Q E ⟨d, sa, ns, k, m, rfl, _⟩; rfl
  case body =>
    refine ⟨_, (pss_cons (ps_asg (pe_op op_add (pe_ix (k_ixL (K := K) rfl) (pv 0) pe_int (fun _ _ => rfl)) pe_int) (pg_sub (pv 0) pe_int set_list))
  (pss_cons (ps_if (pt_cmpR op_gt (pe_ix (k_ixL (K := K) rfl) (pv 0) pe_int (fun _ _ => rfl)) (pe_callB (k_len (K := K) rfl) (by rfl) T.len_ (by decide +kernel) (pa_cons (pe_ix (k_ixL (K := K) rfl) (pv 0) pe_int (fun _ _ => rfl)) pa_nil)) (nomark _))
  (pss_cons (ps_ret pe_int)
  pss_nil)
  pss_nil)
  (pss_cons (ps_ret (pe_op op_modN (pe_ix (k_ixL (K := K) rfl) (pe_ix (k_ixL (K := K) rfl) (pv 0) pe_int (fun _ _ => rfl)) (pe_op op_sub (pe_ix (k_ixL (K := K) rfl) (pv 0) pe_int (fun _ _ => rfl)) pe_int) (fun _ _ => rfl)) (pv 1)))
  pss_nil))), ?_⟩
    obtain ⟨d, sa, ns, k, m, rfl, hd, hs, hk, hl, hm, q⟩ := h
    have a0 : ∀ k : Int, atI [V.ref sa, V.int k] 0 = some (V.ref sa) := fun _ => rfl
    have a1 : ∀ k : Int, atI [V.ref sa, V.int k] 1 = some (V.int k) := fun _ => rfl
    refine ⟨_, rfl, d, _, _, _, rfl, rfl, .inl (.inl hd), a1 _, _, _, rfl, rfl, _, rfl, d, _, _, 1, rfl, rfl, hd, rfl, ?_⟩
    have hs2 := scr_put (o := .lst [.ref sa, .int ((k : Int) + 1)]) hd hs
    refine ⟨_, rfl, d, _, _, _, rfl, rfl, .inl (.inl upd_same), a1 _, _, rfl, d, _, _, _, rfl, rfl, .inl (.inl upd_same), a0 _, sa, _, rfl, .inl hs2, _, _, rfl, rfl, _, rfl, ?_⟩
    rw [List.length_map]
    by_cases c : ns.length < k + 1
    · have c2 : ((ns.length : Int) < (k : Int) + 1) := by omega
      refine iteT' (decide_eq_true c2) ?_
      have e : nxt ns k m = 0 := by unfold nxt; rw [if_neg (by omega)]
      rw [e] at q
      exact q
    · have c2 : ¬ ((ns.length : Int) < (k : Int) + 1) := by omega
      refine iteF' (decide_eq_false c2) ?_
      have hk2 : k < ns.length := by omega
      have e : nxt ns k m = (ns.getD k 0).fmod m := by unfold nxt; rw [if_pos hk2]
      rw [e] at q
      have hat : atI (ns.map V.int) ((k : Int) + 1 - 1) = some (V.int (ns.getD k 0)) := by
        have e2 : (k : Int) + 1 - 1 = (k : Int) := by omega
        rw [e2]
        refine atI_nat ?_
        rw [List.getElem?_map, List.getElem?_eq_getElem hk2]
        simp [List.getD, hk2]
      exact ⟨_, rfl, d, _, _, _, rfl, rfl, .inl (.inl upd_same), a0 _, _, rfl, d, _, _, _, rfl, rfl, .inl (.inl upd_same), a1 _, _, _, rfl, rfl, sa, _, _, _, rfl, rfl, hs2, hat, _, rfl, _, _, rfl, rfl, by omega, q⟩

abbrev names__law_falls : List Str := ["_law_d", "_law_many", "_law_wide", "_law_count", "_law_falls_here", "_law_k", "_law_least", "_law_most"]
theorem sc__law_falls : FnScope names__law_falls ["_law_d", "_law_many", "_law_wide"] (defScope (topS 16)) := ⟨rfl, rfl, rfl, by decide +kernel, rfl, by decide +kernel, by decide +kernel⟩
theorem ok__law_falls (T : Tx K mg) {f : Addr} {fd : FuncData} (F : FunD K "_law_falls" "_law_falls" (defArgs (topS 16)) (defBody (topS 16)) (defScope (topS 16)) [] [] f fd) (gm : mg "_law_falls" = some (.ref f)) (c__law_next : Cal P w K mg base CX0 1 "_law_next" (spNext K)) : Cal P w K mg base CX0 2 "_law_falls" (spD (I__law_falls K)) := by
  have nd := sc__law_falls.nd
  have hcl_Spans := T.cl_Spans
  have hcl_Web := T.cl_Web
  have hna_Spans_many := T.na_Spans_many
  have hna_Spans_roads := T.na_Spans_roads
  have hna_Spans_table := T.na_Spans_table
  have hna_Web_falling := T.na_Web_falling
  have hna_Web_last := T.na_Web_last
  have hna_Web_many := T.na_Web_many
  have hna_Web_tied := T.na_Web_tied
  refine calI F gm sc__law_falls (F.bindsN fun _ _ _ _ _ _ us hl => match us, hl with | [_, _, _], _ => rfl) (fun _ _ _ _ hi => by cases hi <;> rfl) fun cdv A outer s H E hr => ⟨_, (pss_cons (ps_set (i := 3) nd rfl (Or.inl rfl) (pe_c c__law_next hr (by decide) rfl (pa_cons (pv 0) (pa_cons (pe_op op_add (pe_callB (call_min2 rfl) (by rfl) T.min_ (by decide +kernel) (pa_cons pe_int (pa_cons (pe_op op_sub (pv 1) pe_int) pa_nil))) pe_int) pa_nil))))
  (pss_cons (ps_if (PW.pt (pw_and (pt_cmpR op_eq (pv 2) pe_int (nomark _)) (pw_and1 (pt_cmpR op_eq (pe_c c__law_next hr (by decide) rfl (pa_cons (pv 0) (pa_cons pe_int pa_nil))) pe_int (nomark _)))))
  (pss_cons (ps_set (i := 3) nd rfl (Or.inl rfl) (pe_c c__law_next hr (by decide) rfl (pa_cons (pv 0) (pa_cons (pv 1) pa_nil))))
  pss_nil)
  pss_nil)
  (pss_cons (ps_set (i := 4) nd rfl (Or.inl rfl) (pe_lst pa_nil))
  (pss_cons (ps_for PassesOwn.never rfl (pi_range1 (by rfl) T.range_ (pa_cons (pv 3) pa_nil)) (pg_name (i := 5) nd rfl (by first | exact Or.inl rfl | exact Or.inr rfl))
  (pss_cons (ps_set (i := 6) nd rfl (Or.inl rfl) (pe_op op_add pe_int (pe_c c__law_next hr (by decide) rfl (pa_cons (pv 0) (pa_cons (pv 2) pa_nil)))))
  (pss_cons (ps_set (i := 7) nd rfl (Or.inl rfl) (pe_op op_add (pv 6) (pe_c c__law_next hr (by decide) rfl (pa_cons (pv 0) (pa_cons (pv 2) pa_nil)))))
  (pss_cons (ps_if (PW.pt (pw_and (pt_cmpR op_eq (pv 2) pe_int (nomark _)) (pw_and1 (pt_cmpR op_eq (pe_c c__law_next hr (by decide) rfl (pa_cons (pv 0) (pa_cons pe_int pa_nil))) pe_int (nomark _)))))
  (pss_cons (ps_set (i := 6) nd rfl (Or.inl rfl) (pe_op op_add pe_int (pe_c c__law_next hr (by decide) rfl (pa_cons (pv 0) (pa_cons pe_int pa_nil)))))
  (pss_cons (ps_set (i := 7) nd rfl (Or.inl rfl) (pe_op op_add (pv 6) (pe_c c__law_next hr (by decide) rfl (pa_cons (pv 0) (pa_cons (pe_op op_sub pe_int (pv 6)) pa_nil)))))
  pss_nil))
  pss_nil)
  (pss_cons (ps_expr (k_bm (K := K) rfl PySem.F.plainAttrs_list PySem.F.slot_list_append PySem.F.type_list_append mt_append (pv 4) (pa_cons (pe_tup (pa_cons (pe_c c__law_next hr (by decide) rfl (pa_cons (pv 0) (pa_cons (pe_op op_sub (pv 1) (pv 3)) pa_nil))) (pa_cons (pe_op op_sub (pe_op op_sub (pv 1) pe_int) (pv 5)) (pa_cons (pv 6) (pa_cons (pv 7) pa_nil))))) pa_nil)))
  pss_nil)))))
  (pss_cons (ps_ret (pv 4))
  pss_nil))))), ?_⟩
  rintro _ _ _ _ Γ Dn ⟨d, sa, ns, k, many, wide, hl, hk, h1, h2, h3, h4⟩ hS hn ret
  show Go Γ [.val (.ref d), .dat (.int many), .dat (.int wide), .unk, .unk, .unk, .unk, .unk] _ _
  have hc := fcount_range (ns := ns) (k := k) (many := many) (wide := wide) h1
  have hck := fcount_k (ns := ns) (k := k) (many := many) (wide := wide)
  -- count
  refine go_asg (F1 := [(d, .dice K sa ns (k + 1))]) (d := .int (nxt ns k (min 3 (many - 1) + 1))) (by walk_at "evx") ?_
  refine go_cut (F1 := [(d, .dice K sa ns (fcount ns k many wide).2)]) (es' := [.val (.ref d), .dat (.int many), .dat (.int wide), .dat (.int (fcount ns k many wide).1), .unk, .unk, .unk, .unk]) (fun N hN => ?_) ?_
  · unfold fcount at hN
    by_cases hw : wide = 8
    · rw [if_pos hw] at hN
      refine go_ifP1 (p := nxt ns (k + 1) 4 = 3) (evt_and_t (EvT.to (by walk_at "evt") (decide_eq_true hw)) (by walk_at "evt")) (fun c => ?_) (fun c => ?_)
      · rw [if_pos c] at hN
        dsimp only at hN
        refine go_asg (by walk_at "evx") ?_
        exact hN
      · rw [if_neg c] at hN
        exact hN
    · rw [if_neg hw] at hN
      exact go_if1 (evt_and_f (EvT.to (by walk_at "evt") (decide_eq_false hw))) (fun z => by cases z) (fun _ => hN)
  refine go_new (F1 := [(d, .dice K sa ns (fcount ns k many wide).2)]) (ds := []) (evn_lst eva_nil rfl (by simp)) fun l => ?_
  show Go Γ [.val (.ref d), .dat (.int many), .dat (.int wide), .dat (.int (fcount ns k many wide).1), .val (.ref l), .unk, .unk, .unk] [(d, .dice K sa ns (fcount ns k many wide).2), (l, .own [])] _
  -- the falls
  refine go_forR1 (F1 := [(d, .dice K sa ns (fcount ns k many wide).2), (l, .own [])]) (n := (fcount ns k many wide).1) (by walk_at "eva") (by omega) (fun i => [.val (.ref d), .dat (.int many), .dat (.int wide), .dat (.int (fcount ns k many wide).1), .val (.ref l), .unk, .unk, .unk])
    (fun i => [(d, .dice K sa ns (fallsAt ns (fcount ns k many wide).2 many wide (fcount ns k many wide).1 i).2), (l, .own ((fallsAt ns (fcount ns k many wide).2 many wide (fcount ns k many wide).1 i).1.map e4))]) (by rw [fallsAt_0]; exact go_inv (.rfl' _)) (fun i hi => ?_) ?_
  · have hk2 := fallsAt_k (ns := ns) (k := (fcount ns k many wide).2) (many := many) (wide := wide) (count := (fcount ns k many wide).1) i
    have hsl := fallsAt_len (ns := ns) (k := (fcount ns k many wide).2) (many := many) (wide := wide) (count := (fcount ns k many wide).1) i
    rw [fallsAt_s]
    generalize hkk : (fallsAt ns (fcount ns k many wide).2 many wide (fcount ns k many wide).1 i).2 = kk at hk2 ⊢
    generalize hls : (fallsAt ns (fcount ns k many wide).2 many wide (fcount ns k many wide).1 i).1 = ls at hsl ⊢
    have hsp := fspan_k (ns := ns) (k := kk) (wide := wide)
    generalize hcc : (fcount ns k many wide).1 = count at hc hi ⊢
    walk_at "nrm"
    walk_at "asg"
    walk_at "asg"
    refine go_cut (F1 := [(d, .dice K sa ns (fspan ns kk wide).2), (l, .own (ls.map e4))]) (es' := [.val (.ref d), .dat (.int many), .dat (.int wide), .dat (.int count), .val (.ref l), .dat (.int (i : Int)), .dat (.int (fspan ns kk wide).1.1), .dat (.int (fspan ns kk wide).1.2)]) (fun N hN => ?_) ?_
    · have h60 := nxt_range (ns := ns) (k := kk + 3) (m := 60) (by omega)
      unfold fspan at hN
      by_cases hw : wide = 8
      · rw [if_pos hw] at hN
        refine go_ifP1 (p := nxt ns (kk + 2) 8 = 7) (evt_and_t (EvT.to (by walk_at "evt") (decide_eq_true hw)) (by walk_at "evt")) (fun c => ?_) (fun c => ?_)
        · rw [if_pos c] at hN
          dsimp only at hN
          walk_at "asg"
          walk_at "asg"
          exact hN
        · rw [if_neg c] at hN
          exact hN
      · rw [if_neg hw] at hN
        exact go_if1 (evt_and_f (EvT.to (by walk_at "evt") (decide_eq_false hw))) (fun z => by cases z) (fun _ => hN)
    rw [fall1_eq]
    refine go_append2 (q2 := (d, .dice K sa ns ((fspan ns kk wide).2 + 1))) (evv_var rfl) (d := e4 (nxt ns (fspan ns kk wide).2 (many - count), many - 1 - (i : Int), (fspan ns kk wide).1.1, (fspan ns kk wide).1.2)) ?_ (by rw [List.length_map]; omega) ?_
    · exact EvX.to (by walk_at "evx") (by rfl)
    · refine go_nx ?_
      show Go Γ _ _ (InvP _ _ _)
      rw [List.map_append]
      exact go_inv (.same (.same (.same (.same (.same (.unk (.unk (.unk .nil))))))))
  -- the end
  rw [falls_eq] at ret
  exact go_freeze2 (i := 4) rfl (go_rt0 ret (evx_var rfl))

abbrev names__law_ties : List Str := ["_law_d", "_law_many", "_law_last", "_law_wide", "_law_ties_here", "_law_times", "_law_count", "_law_k", "_law_one", "_law_other", "_law_near", "_law_least"]
theorem sc__law_ties : FnScope names__law_ties ["_law_d", "_law_many", "_law_last", "_law_wide"] (defScope (topS 17)) := ⟨rfl, rfl, rfl, by decide +kernel, rfl, by decide +kernel, by decide +kernel⟩
theorem ok__law_ties (T : Tx K mg) {f : Addr} {fd : FuncData} (F : FunD K "_law_ties" "_law_ties" (defArgs (topS 17)) (defBody (topS 17)) (defScope (topS 17)) [] [] f fd) (gm : mg "_law_ties" = some (.ref f)) (c__law_next : Cal P w K mg base CX0 1 "_law_next" (spNext K)) : Cal P w K mg base CX0 2 "_law_ties" (spD (I__law_ties K)) := by
  have nd := sc__law_ties.nd
  have hcl_Spans := T.cl_Spans
  have hcl_Web := T.cl_Web
  have hna_Spans_many := T.na_Spans_many
  have hna_Spans_roads := T.na_Spans_roads
  have hna_Spans_table := T.na_Spans_table
  have hna_Web_falling := T.na_Web_falling
  have hna_Web_last := T.na_Web_last
  have hna_Web_many := T.na_Web_many
  have hna_Web_tied := T.na_Web_tied
  refine calI F gm sc__law_ties (F.bindsN fun _ _ _ _ _ _ us hl => match us, hl with | [_, _, _, _], _ => rfl) (fun _ _ _ _ hi => by cases hi <;> rfl) fun cdv A outer s H E hr => ⟨_, (pss_cons (ps_set (i := 4) nd rfl (Or.inl rfl) (pe_lst pa_nil))
  (pss_cons (ps_set (i := 5) nd rfl (Or.inl rfl) (pe_op op_cat (pe_lst (pa_cons pe_int pa_nil)) (pe_lc (own := [("_law_k", 7)]) rfl nd (pi_range1 (by rfl) T.range_ (pa_cons (pe_op op_sub (pv 1) pe_int) pa_nil)) (by refine blkOk_by (own := [("_law_k", 7)]) (N := names__law_ties) (sc := defScope (topS 17)) ?_; decide +kernel) (fun _ _ _ _ _ => (pg_name (i := 7) nd rfl (by first | exact Or.inl rfl | exact Or.inr rfl))) (fun _ _ _ _ _ => pts_nil) (fun _ _ _ _ _ => (pe_c c__law_next hr (by decide) rfl (pa_cons (pv 0) (pa_cons (pe_op op_add (pv 2) pe_int) pa_nil)))))))
  (pss_cons (ps_set (i := 6) nd rfl (Or.inl rfl) (pe_c c__law_next hr (by decide) rfl (pa_cons (pv 0) (pa_cons pe_int pa_nil))))
  (pss_cons (ps_if (PW.pt (pw_and (pt_cmpR op_eq (pv 3) pe_int (nomark _)) (pw_and1 (pt_cmpR op_eq (pe_c c__law_next hr (by decide) rfl (pa_cons (pv 0) (pa_cons pe_int pa_nil))) pe_int (nomark _)))))
  (pss_cons (ps_set (i := 6) nd rfl (Or.inl rfl) (pe_c c__law_next hr (by decide) rfl (pa_cons (pv 0) (pa_cons pe_int pa_nil))))
  pss_nil)
  pss_nil)
  (pss_cons (ps_for PassesOwn.never rfl (pi_range1 (by rfl) T.range_ (pa_cons (pv 6) pa_nil)) (pg_name (i := 7) nd rfl (by first | exact Or.inl rfl | exact Or.inr rfl))
  (pss_cons (ps_set (i := 8) nd rfl (Or.inl rfl) (pe_c c__law_next hr (by decide) rfl (pa_cons (pv 0) (pa_cons (pv 1) pa_nil))))
  (pss_cons (ps_set (i := 9) nd rfl (Or.inl rfl) (pe_op op_modN (pe_op op_add (pe_op op_add (pv 8) pe_int) (pe_c c__law_next hr (by decide) rfl (pa_cons (pv 0) (pa_cons (pe_op op_sub (pv 1) pe_int) pa_nil)))) (pv 1)))
  (pss_cons (ps_set (i := 10) nd rfl (Or.inl rfl) (pe_op op_sub (pe_ix (k_ixL (K := K) rfl) (pv 5) (pv 9) (fun _ _ => rfl)) (pe_ix (k_ixL (K := K) rfl) (pv 5) (pv 8) (fun _ _ => rfl))))
  (pss_cons (ps_if (pt_cmpR op_eq (pe_c c__law_next hr (by decide) rfl (pa_cons (pv 0) (pa_cons pe_int pa_nil))) pe_int (nomark _))
  (pss_cons (ps_set (i := 10) nd rfl (Or.inl rfl) (pe_op op_sub (pe_c c__law_next hr (by decide) rfl (pa_cons (pv 0) (pa_cons (pe_op op_add (pe_op op_mul pe_int (pv 2)) pe_int) pa_nil))) (pv 2)))
  pss_nil)
  pss_nil)
  (pss_cons (ps_set (i := 11) nd rfl (Or.inl rfl) (pe_callB (call_max2 rfl) (by rfl) T.max_ (by decide +kernel) (pa_cons (pe_un un_neg pe_int) (pa_cons (pe_op op_sub (pv 10) (pe_c c__law_next hr (by decide) rfl (pa_cons (pv 0) (pa_cons (pe_op op_add (pv 3) pe_int) pa_nil)))) pa_nil))))
  (pss_cons (ps_expr (k_bm (K := K) rfl PySem.F.plainAttrs_list PySem.F.slot_list_append PySem.F.type_list_append mt_append (pv 4) (pa_cons (pe_tup (pa_cons (pv 8) (pa_cons (pv 9) (pa_cons (pv 11) (pa_cons (pe_callB (call_min2 rfl) (by rfl) T.min_ (by decide +kernel) (pa_cons pe_int (pa_cons (pe_callB (call_max2 rfl) (by rfl) T.max_ (by decide +kernel) (pa_cons (pv 11) (pa_cons (pe_op op_add (pv 10) (pe_c c__law_next hr (by decide) rfl (pa_cons (pv 0) (pa_cons (pe_op op_add (pv 3) pe_int) pa_nil)))) pa_nil))) pa_nil))) pa_nil))))) pa_nil)))
  pss_nil)))))))
  (pss_cons (ps_ret (pv 4))
  pss_nil)))))), ?_⟩
  rintro _ _ _ _ Γ Dn ⟨d, sa, ns, k, many, last, wide, hl, hk, h1, h2, h3, h4, h5, h6⟩ hS hn ret
  show Go Γ [.val (.ref d), .dat (.int many), .dat (.int last), .dat (.int wide), .unk, .unk, .unk, .unk, .unk, .unk, .unk, .unk] _ _
  have hc := tcount_range (ns := ns) (k := k + (many - 1).toNat) (wide := wide)
  have hlen := ltimes_len (ns := ns) (k := k) (many := many) (last := last) (by omega)
  refine go_new (F1 := [(d, .dice K sa ns k)]) (ds := []) (evn_lst eva_nil rfl (by simp)) fun l => ?_
  walk_at "nrm"
  -- times
  refine go_asg (d := .lst ((ltimes ns k many last).map D.int)) (F1 := [(d, .dice K sa ns (k + (many - 1).toNat)), (l, .own [])]) ?_ ?_
  · refine EvX.to (evx_op (d1 := .lst [.int 0]) (by walk_at "evx") (EvN.x (evn_lcR1 (n := many - 1) (iF := fun i => [(d, .dice K sa ns (k + i)), (l, .own [])]) (by walk_at "eva") (by omega) (fun _ => true) (fun i => .int (nxt ns (k + i) (last + 1)))
      (fun i => [.val (.ref d), .dat (.int many), .dat (.int last), .dat (.int wide), .val (.ref l), .unk, .unk, .dat (.int (i : Int)), .unk, .unk, .unk, .unk]) (fun i _ => gog_name) (fun j hj => hj) (fun i hi => .yes (EvX.toF (by walk_at "evx") (by rfl))))) (rv_cat ?_)) ?_
    · rw [lcD_all, List.length_map, List.length_range]
      show 1 + _ ≤ _
      omega
    · rw [lcD_all, ltimes_eq, timesAt_eq, List.map_cons, List.map_map]
      rfl
  walk_at "nrm"
  generalize hkt : k + (many - 1).toNat = kt at hc ⊢
  generalize htm : ltimes ns k many last = times at hlen ⊢
  -- count
  walk_at "asg"
  refine go_cut (F1 := [(d, .dice K sa ns (tcount ns kt wide).2), (l, .own [])]) (es' := [.val (.ref d), .dat (.int many), .dat (.int last), .dat (.int wide), .val (.ref l), .dat (.lst (times.map D.int)), .dat (.int (tcount ns kt wide).1), .unk, .unk, .unk, .unk, .unk]) (fun N hN => ?_) ?_
  · unfold tcount at hN
    by_cases hw : wide = 8
    · rw [if_pos hw] at hN
      refine go_ifP1 (p := nxt ns (kt + 1) 5 = 4) (evt_and_t (EvT.to (by walk_at "evt") (decide_eq_true hw)) (by walk_at "evt")) (fun c => ?_) (fun c => ?_)
      · rw [if_pos c] at hN
        dsimp only at hN
        walk_at "asg"
        exact hN
      · rw [if_neg c] at hN
        exact hN
    · rw [if_neg hw] at hN
      exact go_if1 (evt_and_f (EvT.to (by walk_at "evt") (decide_eq_false hw))) (fun z => by cases z) (fun _ => hN)
  -- the ties
  refine go_forR1 (F1 := [(d, .dice K sa ns (tcount ns kt wide).2), (l, .own [])]) (n := (tcount ns kt wide).1) (by walk_at "eva") (by omega) (fun i => [.val (.ref d), .dat (.int many), .dat (.int last), .dat (.int wide), .val (.ref l), .dat (.lst (times.map D.int)), .dat (.int (tcount ns kt wide).1), .unk, .unk, .unk, .unk, .unk])
    (fun i => [(d, .dice K sa ns (tiesAt ns (tcount ns kt wide).2 many last wide times i).2), (l, .own ((tiesAt ns (tcount ns kt wide).2 many last wide times i).1.map e4))]) (by rw [tiesAt_0]; exact go_inv (.rfl' _)) (fun i hi => ?_) ?_
  · have hk2 := tiesAt_k (ns := ns) (k := (tcount ns kt wide).2) (many := many) (last := last) (wide := wide) (times := times) i
    have hsl := tiesAt_len (ns := ns) (k := (tcount ns kt wide).2) (many := many) (last := last) (wide := wide) (times := times) i
    rw [tiesAt_s, tie1_eq]
    generalize hkk : (tiesAt ns (tcount ns kt wide).2 many last wide times i).2 = kk at hk2 ⊢
    generalize hls : (tiesAt ns (tcount ns kt wide).2 many last wide times i).1 = ls at hsl ⊢
    have hne := tnear_k (ns := ns) (k := kk) (many := many) (last := last) (times := times)
    have ho := tother_range (ns := ns) (k := kk) (many := many) (by omega)
    have hone := nxt_range (ns := ns) (k := kk) (m := many) (by omega)
    generalize hcc : (tcount ns kt wide).1 = count at hc hi ⊢
    walk_at "nrm"
    walk_at "asg"
    refine go_asg (d := .int (tother ns kk many)) (EvX.to (by walk_at "evx") (by rw [tother_eq])) ?_
    walk_at "nrm"
    refine go_asg (evx_op (evx_op (evx_var rfl) (evx_var rfl) (rv_ixL (atI_ints (by omega) (by omega)))) (evx_op (evx_var rfl) (evx_var rfl) (rv_ixL (atI_ints (by omega) (by omega)))) rv_I0) ?_
    walk_at "nrm"
    refine go_cut (F1 := [(d, .dice K sa ns (tnear ns kk many last times).2), (l, .own (ls.map e4))]) (es' := [.val (.ref d), .dat (.int many), .dat (.int last), .dat (.int wide), .val (.ref l), .dat (.lst (times.map D.int)), .dat (.int count), .dat (.int (i : Int)), .dat (.int (nxt ns kk many)), .dat (.int (tother ns kk many)), .dat (.int (tnear ns kk many last times).1), .unk]) (fun N hN => ?_) ?_
    · unfold tnear at hN
      refine go_ifP1 (p := nxt ns (kk + 2) 4 = 3) (by walk_at "evt") (fun c => ?_) (fun c => ?_)
      · rw [if_pos c] at hN
        dsimp only at hN
        walk_at "asg"
        exact hN
      · rw [if_neg c] at hN
        exact hN
    generalize hnr : (tnear ns kk many last times).1 = near
    generalize hnk : (tnear ns kk many last times).2 = k2 at hne ⊢
    refine go_asg (d := .int (max (-60) (near - nxt ns k2 (wide + 1)))) (F1 := [(d, .dice K sa ns (k2 + 1)), (l, .own (ls.map e4))]) (by walk_at "evx") ?_
    walk_at "nrm"
    refine go_append2 (q2 := (d, .dice K sa ns (k2 + 2))) (evv_var rfl) (d := e4 (nxt ns kk many, tother ns kk many, max (-60) (near - nxt ns k2 (wide + 1)), min 60 (max (max (-60) (near - nxt ns k2 (wide + 1))) (near + nxt ns (k2 + 1) (wide + 1))))) ?_ (by rw [List.length_map]; omega) ?_
    · exact EvX.to (by walk_at "evx") (by rfl)
    · refine go_nx ?_
      show Go Γ _ _ (InvP _ _ _)
      rw [List.map_append]
      exact go_inv (.same (.same (.same (.same (.same (.same (.same (.unk (.unk (.unk (.unk (.unk .nil))))))))))))
  rw [ties_eq, hkt, htm] at ret
  exact go_freeze2 (i := 4) rfl (go_rt0 ret (evx_var rfl))

abbrev names__law_named : List Str := ["_law_moment", "_law_many", "_law_turn"]
theorem sc__law_named : FnScope names__law_named ["_law_moment", "_law_many", "_law_turn"] (defScope (topS 15)) := ⟨rfl, rfl, rfl, by decide +kernel, rfl, by decide +kernel, by decide +kernel⟩
theorem ok__law_named (T : Tx K mg) {f : Addr} {fd : FuncData} (F : FunD K "_law_named" "_law_named" (defArgs (topS 15)) (defBody (topS 15)) (defScope (topS 15)) [] [] f fd) (gm : mg "_law_named" = some (.ref f))  : Cal P w K mg base CX0 1 "_law_named" (spD (I__law_named K)) := by
  have nd := sc__law_named.nd
  have hcl_Spans := T.cl_Spans
  have hcl_Web := T.cl_Web
  have hna_Spans_many := T.na_Spans_many
  have hna_Spans_roads := T.na_Spans_roads
  have hna_Spans_table := T.na_Spans_table
  have hna_Web_falling := T.na_Web_falling
  have hna_Web_last := T.na_Web_last
  have hna_Web_many := T.na_Web_many
  have hna_Web_tied := T.na_Web_tied
  refine calI F gm sc__law_named (F.bindsN fun _ _ _ _ _ _ us hl => match us, hl with | [_, _, _], _ => rfl) (fun _ _ _ _ hi => by cases hi <;> rfl) fun cdv A outer s H E hr => ⟨_, (pss_cons (ps_if (pt_cmpR op_eq (pv 0) pe_int (nomark _))
  (pss_cons (ps_ret pe_int)
  pss_nil)
  pss_nil)
  (pss_cons (ps_ret (pe_op op_add pe_int (pe_op op_modN (pe_op op_add (pe_op op_sub (pv 0) pe_int) (pv 2)) (pe_op op_sub (pv 1) pe_int))))
  pss_nil)), ?_⟩
  rintro _ _ _ _ Γ Dn ⟨m, many, turn, h⟩ hS hn ret
  refine go_ifP (evt_test (evx_op (evx_var rfl) evx_int rv_eq_int)) (fun c => ?_) (fun c => ?_)
  · refine go_rt (R := []) ret (EvX.to evx_int ?_)
    unfold named; rw [if_pos c]
  · refine go_rt (R := []) ret (EvX.to (evx_op evx_int (evx_op (evx_op (evx_op (evx_var rfl) evx_int rv_I0) (evx_var rfl) rv_I0) (evx_op (evx_var rfl) evx_int rv_I0) (rv_I (by omega))) rv_I0) ?_)
    unfold named; rw [if_neg c]

abbrev names__law_web : List Str := ["_law_d", "_law_most", "_law_last", "_law_wide", "_law_many", "_law_falls_here", "_law_ties_here", "_law_turn", "_law_found", "_law_rows", "_law_r"]
theorem sc__law_web : FnScope names__law_web ["_law_d", "_law_most", "_law_last", "_law_wide"] (defScope (topS 18)) := ⟨rfl, rfl, rfl, by decide +kernel, rfl, by decide +kernel, by decide +kernel⟩
theorem ok__law_web (T : Tx K mg) {f : Addr} {fd : FuncData} (F : FunD K "_law_web" "_law_web" (defArgs (topS 18)) (defBody (topS 18)) (defScope (topS 18)) [] [] f fd) (gm : mg "_law_web" = some (.ref f)) (c__law_next : Cal P w K mg base CX0 1 "_law_next" (spNext K)) (c__law_falls : Cal P w K mg base CX0 2 "_law_falls" (spD (I__law_falls K))) (c__law_ties : Cal P w K mg base CX0 2 "_law_ties" (spD (I__law_ties K))) (c__law_named : Cal P w K mg base CX0 1 "_law_named" (spD (I__law_named K))) : Cal P w K mg base CX0 3 "_law_web" (spD (I__law_web K)) := by
  have nd := sc__law_web.nd
  have hcl_Spans := T.cl_Spans
  have hcl_Web := T.cl_Web
  have hna_Spans_many := T.na_Spans_many
  have hna_Spans_roads := T.na_Spans_roads
  have hna_Spans_table := T.na_Spans_table
  have hna_Web_falling := T.na_Web_falling
  have hna_Web_last := T.na_Web_last
  have hna_Web_many := T.na_Web_many
  have hna_Web_tied := T.na_Web_tied
  refine calI F gm sc__law_web (F.bindsN fun _ _ _ _ _ _ us hl => match us, hl with | [_, _, _, _], _ => rfl) (fun _ _ _ _ hi => by cases hi <;> rfl) fun cdv A outer s H E hr => ⟨_, (pss_cons (ps_set (i := 4) nd rfl (Or.inr rfl) (pe_op op_add pe_int (pe_c c__law_next hr (by decide) rfl (pa_cons (pv 0) (pa_cons (pe_op op_sub (pv 1) pe_int) pa_nil)))))
  (pss_cons (ps_set (i := 2) nd rfl (Or.inl rfl) (pe_op op_add pe_int (pe_c c__law_next hr (by decide) rfl (pa_cons (pv 0) (pa_cons (pv 2) pa_nil)))))
  (pss_cons (ps_set (i := 5) nd rfl (Or.inl rfl) (pe_c c__law_falls hr (by decide) rfl (pa_cons (pv 0) (pa_cons (pv 4) (pa_cons (pv 3) pa_nil)))))
  (pss_cons (ps_set (i := 6) nd rfl (Or.inl rfl) (pe_c c__law_ties hr (by decide) rfl (pa_cons (pv 0) (pa_cons (pv 4) (pa_cons (pv 2) (pa_cons (pv 3) pa_nil))))))
  (pss_cons (ps_set (i := 7) nd rfl (Or.inr rfl) (pe_c c__law_next hr (by decide) rfl (pa_cons (pv 0) (pa_cons (pv 4) pa_nil))))
  (pss_cons (ps_set (i := 8) nd rfl (Or.inl rfl) (pe_lst pa_nil))
  (pss_cons (ps_for PassesOwn.never rfl (k_pl (K := K) rfl (pe_lst (pa_cons (pv 6) (pa_cons (pv 5) pa_nil)))) (pg_name (i := 9) nd rfl (by first | exact Or.inl rfl | exact Or.inr rfl))
  (pss_cons (ps_expr (k_bm (K := K) rfl PySem.F.plainAttrs_list PySem.F.slot_list_append PySem.F.type_list_append mt_append (pv 8) (pa_cons (pe_lc (own := [("_law_r", 10)]) rfl nd (k_pl (K := K) rfl (pv 9)) (by refine blkOk_by (own := [("_law_r", 10)]) (N := names__law_web) (sc := defScope (topS 18)) ?_; decide +kernel) (fun _ _ _ _ _ => (pg_name (i := 10) nd rfl (by first | exact Or.inl rfl | exact Or.inr rfl))) (fun _ _ _ _ _ => pts_nil) (fun _ _ _ _ _ => (pe_tup (pa_cons (pe_c c__law_named hr (by decide) rfl (pa_cons (pe_ix (k_ixT (K := K) rfl) (pv 10) pe_int (fun _ _ => rfl)) (pa_cons (pv 4) (pa_cons (pv 7) pa_nil)))) (pa_cons (pe_c c__law_named hr (by decide) rfl (pa_cons (pe_ix (k_ixT (K := K) rfl) (pv 10) pe_int (fun _ _ => rfl)) (pa_cons (pv 4) (pa_cons (pv 7) pa_nil)))) (pa_cons (pe_ix (k_ixT (K := K) rfl) (pv 10) pe_int (fun _ _ => rfl)) (pa_cons (pe_ix (k_ixT (K := K) rfl) (pv 10) pe_int (fun _ _ => rfl)) pa_nil))))))) pa_nil)))
  pss_nil))
  (pss_cons (ps_ret (pe_tup (pa_cons (pv 4) (pa_cons (pv 2) (pa_cons (pe_ix (k_ixL (K := K) rfl) (pv 8) pe_int (fun _ _ => rfl)) (pa_cons (pe_ix (k_ixL (K := K) rfl) (pv 8) pe_int (fun _ _ => rfl)) pa_nil))))))
  pss_nil)))))))), ?_⟩
  rintro _ _ _ _ Γ Dn ⟨d, sa, ns, k, most, last, wide, hl, hk, h1, h2, h3, h4, h5, h6⟩ hS hn ret
  show Go Γ [.val (.ref d), .dat (.int most), .dat (.int last), .dat (.int wide), .unk, .unk, .unk, .unk, .unk, .unk, .unk] _ _
  have hm := lwMany_range (ns := ns) (k := k) h1
  have hla := lwLast_range (ns := ns) (k := k) h5
  have hfk := lwF_k (ns := ns) (k := k) (wide := wide) h1 h2
  have htk := lwT_k (ns := ns) (k := k) (last := last) (wide := wide) h1 h2
  refine go_asg (d := .int (lwMany ns k most)) (EvX.to (by walk_at "evx") (by rw [lwMany_eq])) ?_
  walk_at "nrm"
  refine go_asg (d := .int (lwLast ns k last)) (EvX.to (by walk_at "evx") (by rw [lwLast_eq])) ?_
  walk_at "nrm"
  refine go_asg (by walk_at "evx") ?_
  walk_at "nrm"
  rw [← lwF_eq]
  refine go_asg (by walk_at "evx") ?_
  walk_at "nrm"
  rw [← lwT_eq]
  refine go_asg (d := .int (lwTurn ns k most last wide)) (EvX.to (by walk_at "evx") (by rw [lwTurn_eq])) ?_
  walk_at "nrm"
  have hfl := falls_len (ns := ns) (k := k + 2) (many := lwMany ns k most) (wide := wide) (by omega) (by omega)
  have htl := ties_len (ns := ns) (k := (lwF ns k most wide).2) (many := lwMany ns k most) (last := lwLast ns k last) (wide := wide)
  rw [← lwF_eq] at hfl
  rw [← lwT_eq] at htl
  rw [lawWeb_eq] at ret
  generalize lwMany ns k most = many at hm ret ⊢
  generalize lwLast ns k last = last' at ret ⊢
  generalize lwTurn ns k most last wide = turn at ret ⊢
  generalize (lwF ns k most wide).1 = fs at hfl ret ⊢
  generalize hkt : (lwT ns k most last wide).2 = kt at ret ⊢
  generalize (lwT ns k most last wide).1 = ts at htl ret ⊢
  refine go_new (F1 := [(d, .dice K sa ns (kt + 1))]) (ds := []) (evn_lst eva_nil rfl (by simp)) fun l => ?_
  walk_at "nrm"
  refine go_forL (F1 := [(d, .dice K sa ns (kt + 1)), (l, .own [])]) (js := [9]) (ds := [.lst (ts.map e4), .lst (fs.map e4)]) (by walk_at "evx") (fun i => [.val (.ref d), .dat (.int most), .dat (.int last'), .dat (.int wide), .dat (.int many), .dat (.lst (fs.map e4)), .dat (.lst (ts.map e4)), .dat (.int turn), .val (.ref l), .unk, .unk])
    (fun i => [(d, .dice K sa ns (kt + 1)), (l, .own (([.lst ((ts.map (nm4 many turn)).map e4), .lst ((fs.map (nm4 many turn)).map e4)] : List D).take i))]) (fun i => [.val (.ref d), .dat (.int most), .dat (.int last'), .dat (.int wide), .dat (.int many), .dat (.lst (fs.map e4)), .dat (.lst (ts.map e4)), .dat (.int turn), .val (.ref l), .dat (([.lst (ts.map e4), .lst (fs.map e4)] : List D).getD i .non), .unk])
    (fun i x hx => ?_) (fun Kn => go_inv (.rfl' _)) (fun i x hx Kn => ?_) ?_
  · have e : ([.lst (ts.map e4), .lst (fs.map e4)] : List D).getD i .non = x := by rw [List.getD_eq_getElem?_getD, hx]; rfl
    rw [e]
    exact gog_name
  · have hi : i < 2 := (List.getElem?_eq_some_iff.mp hx).1
    match i, hi with
    | 0, _ =>
      refine go_append2 (d := .lst ((ts.map (nm4 many turn)).map e4)) (evv_var rfl) (EvX.to (EvN.x (evn_map (K := K) ts e4 (fun t => e4 (nm4 many turn t)) (fun t => [.val (.ref d), .dat (.int most), .dat (.int last'), .dat (.int wide), .dat (.int many), .dat (.lst (fs.map e4)), .dat (.lst (ts.map e4)), .dat (.int turn), .val (.ref l), .dat (.lst (ts.map e4)), .dat (e4 t)]) (evx_var rfl) (by omega) (fun t => gog_name) (fun j hj => hj)
        (fun t _ => EvX.to (by walk_at "evx") (by rfl)))) (by rw [List.map_map]; rfl)) (by simp) ?_
      exact go_nx (go_inv (.same (.same (.same (.same (.same (.same (.same (.same (.same (.unk (.unk .nil))))))))))))
    | 1, _ =>
      refine go_append2 (d := .lst ((fs.map (nm4 many turn)).map e4)) (evv_var rfl) (EvX.to (EvN.x (evn_map (K := K) fs e4 (fun t => e4 (nm4 many turn t)) (fun t => [.val (.ref d), .dat (.int most), .dat (.int last'), .dat (.int wide), .dat (.int many), .dat (.lst (fs.map e4)), .dat (.lst (ts.map e4)), .dat (.int turn), .val (.ref l), .dat (.lst (fs.map e4)), .dat (e4 t)]) (evx_var rfl) (by omega) (fun t => gog_name) (fun j hj => hj)
        (fun t _ => EvX.to (by walk_at "evx") (by rfl)))) (by rw [List.map_map]; rfl)) (by simp) ?_
      exact go_nx (go_inv (.same (.same (.same (.same (.same (.same (.same (.same (.same (.unk (.unk .nil))))))))))))
  refine go_freeze2 (i := 8) rfl ?_
  exact go_rt0 ret (EvX.to (by walk_at "evx") (by rfl))

abbrev names_NoTimes___init__ : List Str := ["self", "ring"]
theorem sc_NoTimes___init__ : FnScope names_NoTimes___init__ ["self", "ring"] (defScope (inClass (topS 4) 0)) := ⟨rfl, rfl, rfl, by decide +kernel, rfl, by decide +kernel, by decide +kernel⟩
theorem ok_NoTimes___init__ (T : Tx K mg) {f : Addr} {fd : FuncData} (F : FunD K "__init__" "NoTimes.__init__" (defArgs (inClass (topS 4) 0)) (defBody (inClass (topS 4) 0)) (defScope (inClass (topS 4) 0)) [] [] f fd) (TX : OexC K (He.ga K "NoTimes")) (iC : PySem.W.findIn K (.ref (He.ga K "NoTimes")) "__init__" = some (some (.ref f))) (tI : PySem.W.typeIn K (.ref f) = some (.type "function")) (gm : mg "NoTimes" = some (.ref (He.ga K "NoTimes"))) : MakX P w K mg base 1 "NoTimes" (He.ga K "NoTimes") (sp1 (He.ga K "NoTimes") "ring") := by
  have nd := sc_NoTimes___init__.nd
  have hcl_Spans := T.cl_Spans
  have hcl_Web := T.cl_Web
  have hna_Spans_many := T.na_Spans_many
  have hna_Spans_roads := T.na_Spans_roads
  have hna_Spans_table := T.na_Spans_table
  have hna_Web_falling := T.na_Web_falling
  have hna_Web_last := T.na_Web_last
  have hna_Web_many := T.na_Web_many
  have hna_Web_tied := T.na_Web_tied
  refine makX1 TX iC tI F gm sc_NoTimes___init__ (F.bindsN fun _ _ _ _ _ _ us hl => match us, hl with | [_, _], _ => rfl) fun cdv A outer s H E hr => ⟨_, (pss_cons (ps_expr (pe_meinit (by rfl) T.gm_MomentError T.bi_MomentError (pa_cons (pv 0) (pa_cons pe_str pa_nil))))
  (pss_cons (ps_ost (pv 0) (pv 1))
  pss_nil)), ?_⟩
  intro a v H Q ha q
  refine ⟨_, rfl, a, He.ga K "NoTimes", _, rfl, by simp, TX, ha, ?_⟩
  refine ⟨_, rfl, _, rfl, a, He.ga K "NoTimes", rfl, TX, T.xn_NoTimes_ring, .inl ⟨ha, fun dx hdx ne => ?_⟩⟩
  exact q dx hdx ne

abbrev names_Spans_is_better : List Str := ["self", "one", "other", "most"]
theorem sc_Spans_is_better : FnScope names_Spans_is_better ["self", "one", "other", "most"] (defScope (inClass (topS 10) 1)) := ⟨rfl, rfl, rfl, by decide +kernel, rfl, by decide +kernel, by decide +kernel⟩
theorem ok_Spans_is_better (T : Tx K mg) {f : Addr} {fd : FuncData} (F : FunD K "is_better" "Spans.is_better" (defArgs (inClass (topS 10) 1)) (defBody (inClass (topS 10) 1)) (defScope (inClass (topS 10) 1)) [] [] f fd) (c : Cls K (He.ga K "Spans")) (me : Meth K (He.ga K "Spans") "is_better" f)  : Met P w K mg base CX0 1 (He.ga K "Spans") "is_better" (spD (I_Spans_is_better K)) := by
  have nd := sc_Spans_is_better.nd
  have hcl_Spans := T.cl_Spans
  have hcl_Web := T.cl_Web
  have hna_Spans_many := T.na_Spans_many
  have hna_Spans_roads := T.na_Spans_roads
  have hna_Spans_table := T.na_Spans_table
  have hna_Web_falling := T.na_Web_falling
  have hna_Web_last := T.na_Web_last
  have hna_Web_many := T.na_Web_many
  have hna_Web_tied := T.na_Web_tied
  refine metI c me F sc_Spans_is_better (F.bindsN fun _ _ _ _ _ _ us hl => match us, hl with | [_, _, _, _], _ => rfl) (fun _ _ _ _ hi => by cases hi <;> rfl) fun cdv A outer s H E hr => ⟨_, (pss_cons (ps_ret (pe_or (pe_cmpR op_isN (pe_ix (k_ixL (K := K) rfl) (pe_ix (k_ixL (K := K) rfl) (k_fld (K := K) rfl (pv 0)) (pv 1) (fun _ _ => rfl)) (pv 2) (fun _ _ => rfl)) pe_non (nomark _)) (pe_one (pe_cmpR op_lt (pv 3) (pe_ix (k_ixL (K := K) rfl) (pe_ix (k_ixL (K := K) rfl) (k_fld (K := K) rfl (pv 0)) (pv 1) (fun _ _ => rfl)) (pv 2) (fun _ _ => rfl)) (nomark _)))))
  pss_nil), ?_⟩
  rintro _ _ _ _ Γ Dn ⟨x, tb, rd, l1, l2, n, s, i, j, most, h, hs, hi, hj⟩ hS hn ret
  show Go Γ [.val (.ref x), .dat (.int (i : Int)), .dat (.int (j : Int)), .dat (.int most)] (fS K x tb rd l1 l2 n s) _
  have ht : EvX (tOp (rIxL K) (tOp (rIxL K) (tFld K (tVar 0) "table") (tVar 1)) (tVar 2)) [.val (.ref x), .dat (.int (i : Int)), .dat (.int (j : Int)), .dat (.int most)] (fS K x tb rd l1 l2 n s) (optD (tAt s.T i j)) (fS K x tb rd l1 l2 n s) := evx_T h hs hcl_Spans hna_Spans_table hi hj rfl (evx_var rfl) (evx_var rfl)
  cases q : tAt s.T i j with
  | none =>
    rw [q] at ht ret
    exact go_rt0 ret (EvX.to (evx_orV (b := true) (c := false) (evx_op ht evx_non (rv_isN (o := none))) (fun z => by cases z)) (by rfl))
  | some v =>
    rw [q] at ht ret
    exact go_rt0 ret (EvX.to (evx_orV (b := false) (evx_op ht evx_non (rv_isN (o := some v))) (fun _ => evx_op (evx_var rfl) ht rv_B0)) (by rfl))

abbrev names_Spans_take : List Str := ["self", "one", "other", "most", "road"]
theorem sc_Spans_take : FnScope names_Spans_take ["self", "one", "other", "most", "road"] (defScope (inClass (topS 10) 3)) := ⟨rfl, rfl, rfl, by decide +kernel, rfl, by decide +kernel, by decide +kernel⟩
theorem ok_Spans_take (T : Tx K mg) {f : Addr} {fd : FuncData} (F : FunD K "take" "Spans.take" (defArgs (inClass (topS 10) 3)) (defBody (inClass (topS 10) 3)) (defScope (inClass (topS 10) 3)) [] [] f fd) (c : Cls K (He.ga K "Spans")) (me : Meth K (He.ga K "Spans") "take" f) (x_NoTimes : MakX P w K mg base 1 "NoTimes" (He.ga K "NoTimes") (sp1 (He.ga K "NoTimes") "ring")) : Met P w K mg base (L2.CX P w) 3 (He.ga K "Spans") "take" (spE (I_Spans_take K)) := by
  have nd := sc_Spans_take.nd
  have hcl_Spans := T.cl_Spans
  have hcl_Web := T.cl_Web
  have hna_Spans_many := T.na_Spans_many
  have hna_Spans_roads := T.na_Spans_roads
  have hna_Spans_table := T.na_Spans_table
  have hna_Web_falling := T.na_Web_falling
  have hna_Web_last := T.na_Web_last
  have hna_Web_many := T.na_Web_many
  have hna_Web_tied := T.na_Web_tied
  refine metE c me F sc_Spans_take (F.bindsN fun _ _ _ _ _ _ us hl => match us, hl with | [_, _, _, _, _], _ => rfl) (fun _ _ _ _ hi => by cases hi <;> rfl) fun cdv A outer s H E hr tk => ⟨_, (pss_cons (ps_if (pt_cmpR op_eq (pv 1) (pv 2) (nomark _))
  (pss_cons (ps_raise rfl tk (pmk_x x_NoTimes hr (by decide) rfl (pa_cons (pe_callTy (k_list (K := K) rfl) (by rfl) T.list_ (by decide +kernel) (pa_cons (pe_slice (k_slT (K := K) rfl) (pv 4) po_none (po_some (pe_un un_neg pe_int))) pa_nil)) pa_nil)))
  pss_nil)
  pss_nil)
  (pss_cons (ps_asg (pv 3) (pg_sub (pe_ix (k_ixL (K := K) rfl) (k_fld (K := K) rfl (pv 0)) (pv 1) (fun _ _ => rfl)) (pv 2) set_list))
  (pss_cons (ps_asg (pv 4) (pg_sub (pe_ix (k_ixL (K := K) rfl) (k_fld (K := K) rfl (pv 0)) (pv 1) (fun _ _ => rfl)) (pv 2) set_list))
  pss_nil))), ?_⟩
  rintro _ _ _ _ Γ Dn hI hS hn ret rex
  cases hI with
  | ok x tb rd l1 l2 n s i j most road h hs hi hj ne =>
    have ret := ret _ rfl
    show Go Γ [.val (.ref x), .dat (.int (i : Int)), .dat (.int (j : Int)), .dat (.int most), .dat (roadD road)] (fS K x tb rd l1 l2 n s) _
    refine go_if (b := false) (EvT.to (evt_test (evx_op (evx_var rfl) (evx_var rfl) rv_eq_int)) (decide_eq_false (by omega))) (fun z => by cases z) (fun _ => ?_)
    refine go_nx ?_
    refine go_setT (v := some most) h hs hcl_Spans hna_Spans_table hi hj rfl (EvX.to (evx_var rfl) (by rfl)) (evx_var rfl) (evx_var rfl) ?_
    refine go_setR (s := ⟨setM s.T i j (some most), s.R⟩) (v := road) h ⟨hs.t.set hi, hs.r⟩ hcl_Spans hna_Spans_roads hi hj rfl (evx_var rfl) (evx_var rfl) (evx_var rfl) ?_
    exact go_fin hn ret
  | err x tb rd l1 l2 n s i j most road e hr =>
    subst e
    have rex := rex _ _ _ rfl
    have hl : road.length ≠ 0 := fun z => hr (List.length_eq_zero_iff.mp z)
    show Go Γ [.val (.ref x), .dat (.int (i : Int)), .dat (.int (i : Int)), .dat (.int most), .dat (roadD road)] (fS K x tb rd l1 l2 n s) _
    refine go_if (b := true) (EvT.to (evt_test (evx_op (evx_var rfl) (evx_var rfl) rv_eq_int)) (decide_eq_true rfl)) (fun _ => ?_) (fun z => by cases z)
    refine go_raise1 (d := ringD road.dropLast) (F1 := fS K x tb rd l1 l2 n s) ?_ (gox_junk rfl rex)
    refine EvX.to (evx_cb (eva_dat (evx_slT (evx_var rfl) evo_none (evo_some (evx_un evx_int)) ?_) eva_nil) rc_listT) ?_
    · rintro ⟨_, h2⟩
      have e : HT.sIx (road.map D.int).length (road.map D.int).length (some (-1)) = (road.map D.int).length - 1 := by
        show (if (-1 : Int) < 0 then ((-1 : Int) + ((road.map D.int).length : Int)).toNat else min (-1 : Int).toNat (road.map D.int).length) = _
        rw [if_pos (by decide)]
        omega
      rw [e, List.length_map] at h2
      omega
    · show D.lst (cutD (road.map D.int) none (some (-1))) = _
      rw [cutD_init, ← List.map_dropLast]

abbrev names_Spans_go_by : List Str := ["self", "middle", "one", "other", "most"]
theorem sc_Spans_go_by : FnScope names_Spans_go_by ["self", "middle"] (defScope (inClass (topS 10) 2)) := ⟨rfl, rfl, rfl, by decide +kernel, rfl, by decide +kernel, by decide +kernel⟩
theorem ok_Spans_go_by (T : Tx K mg) {f : Addr} {fd : FuncData} (F : FunD K "go_by" "Spans.go_by" (defArgs (inClass (topS 10) 2)) (defBody (inClass (topS 10) 2)) (defScope (inClass (topS 10) 2)) [] [] f fd) (c : Cls K (He.ga K "Spans")) (me : Meth K (He.ga K "Spans") "go_by" f) (c_Spans_is_better : Met P w K mg base CX0 1 (He.ga K "Spans") "is_better" (spD (I_Spans_is_better K))) (c_Spans_take : Met P w K mg base (L2.CX P w) 3 (He.ga K "Spans") "take" (spE (I_Spans_take K))) : Met P w K mg base (L2.CX P w) 4 (He.ga K "Spans") "go_by" (spE (I_Spans_go_by K)) := by
  have nd := sc_Spans_go_by.nd
  have hcl_Spans := T.cl_Spans
  have hcl_Web := T.cl_Web
  have hna_Spans_many := T.na_Spans_many
  have hna_Spans_roads := T.na_Spans_roads
  have hna_Spans_table := T.na_Spans_table
  have hna_Web_falling := T.na_Web_falling
  have hna_Web_last := T.na_Web_last
  have hna_Web_many := T.na_Web_many
  have hna_Web_tied := T.na_Web_tied
  refine metE c me F sc_Spans_go_by (F.bindsN fun _ _ _ _ _ _ us hl => match us, hl with | [_, _], _ => rfl) (fun _ _ _ _ hi => by cases hi <;> rfl) fun cdv A outer s H E hr tk => ⟨_, (pss_cons (ps_for (passes_of rfl) rfl (pi_range1 (by rfl) T.range_ (pa_cons (k_fld (K := K) rfl (pv 0)) pa_nil)) (pg_name (i := 2) nd rfl (by first | exact Or.inl rfl | exact Or.inr rfl))
  (pss_cons (ps_for (passes_of rfl) rfl (pi_range1 (by rfl) T.range_ (pa_cons (k_fld (K := K) rfl (pv 0)) pa_nil)) (pg_name (i := 3) nd rfl (by first | exact Or.inl rfl | exact Or.inr rfl))
  (pss_cons (ps_if (PW.pt (pw_and (pt_cmpR op_notN (pe_ix (k_ixL (K := K) rfl) (pe_ix (k_ixL (K := K) rfl) (k_fld (K := K) rfl (pv 0)) (pv 2) (fun _ _ => rfl)) (pv 1) (fun _ _ => rfl)) pe_non (nomark _)) (pw_and1 (pt_cmpR op_notN (pe_ix (k_ixL (K := K) rfl) (pe_ix (k_ixL (K := K) rfl) (k_fld (K := K) rfl (pv 0)) (pv 1) (fun _ _ => rfl)) (pv 3) (fun _ _ => rfl)) pe_non (nomark _)))))
  (pss_cons (ps_set (i := 4) nd rfl (Or.inl rfl) (pe_op op_add (pe_ix (k_ixL (K := K) rfl) (pe_ix (k_ixL (K := K) rfl) (k_fld (K := K) rfl (pv 0)) (pv 2) (fun _ _ => rfl)) (pv 1) (fun _ _ => rfl)) (pe_ix (k_ixL (K := K) rfl) (pe_ix (k_ixL (K := K) rfl) (k_fld (K := K) rfl (pv 0)) (pv 1) (fun _ _ => rfl)) (pv 3) (fun _ _ => rfl))))
  (pss_cons (ps_if (pt_val (pe_mt c_Spans_is_better hr (by decide) (pv 0) (pa_cons (pv 2) (pa_cons (pv 3) (pa_cons (pv 4) pa_nil)))))
  (pss_cons (ps_expr (pe_mtX c_Spans_take hr (by decide) tk (pv 0) (pa_cons (pv 2) (pa_cons (pv 3) (pa_cons (pv 4) (pa_cons (pe_op (k_catT (K := K) rfl) (pe_ix (k_ixL (K := K) rfl) (pe_ix (k_ixL (K := K) rfl) (k_fld (K := K) rfl (pv 0)) (pv 2) (fun _ _ => rfl)) (pv 1) (fun _ _ => rfl)) (pe_slice (k_slT (K := K) rfl) (pe_ix (k_ixL (K := K) rfl) (pe_ix (k_ixL (K := K) rfl) (k_fld (K := K) rfl (pv 0)) (pv 1) (fun _ _ => rfl)) (pv 3) (fun _ _ => rfl)) (po_some pe_int) po_none)) pa_nil))))))
  pss_nil)
  pss_nil)
  pss_nil))
  pss_nil)
  pss_nil))
  pss_nil))
  pss_nil), ?_⟩
  rintro _ _ _ _ Γ Dn hI hS hn ret rex
  obtain ⟨x, tb, rd, l1, l2, n, L, s, mid, h, hs, hL, hn8, hm, rfl, rfl, hok, herr⟩ := go_by_cases hI
  have rex2 : ∀ z, goAt n mid s n = .error z → RetX Γ.S Γ.G Γ.H (junk (fS K x tb rd l1 l2 n s)) (cNT K) ["ring"] [ringD z] E := fun z e => by
    obtain ⟨e1, e2⟩ := herr z e
    have := rex _ _ _ e1
    rw [e2] at this; exact this
  have ret2 : ∀ s', goAt n mid s n = .ok s' → Ret Γ (fS K x tb rd l1 l2 n s') .non Dn.rt := fun s' e => by
    obtain ⟨e1, e2⟩ := hok s' e
    have := ret _ e1
    rw [e2] at this; exact this
  have hdm : ∀ {M : Nat} {s : SpS}, SpI n M s → DmS n s := fun q => ⟨q.t, q.r⟩
  show Go Γ [.val (.ref x), .dat (.int (mid : Int)), .unk, .unk, .unk] (fS K x tb rd l1 l2 n s) _
  refine go_forR1Q (n := (n : Int)) (F1 := fS K x tb rd l1 l2 n s) (eva_dat (evx_fldO (evv_var rfl) fS_x hcl_Spans hna_Spans_many rfl) eva_nil) (by omega) (fun i => ∃ s1, goAt n mid s i = .ok s1) (fun i => [.val (.ref x), .dat (.int (mid : Int)), .unk, .unk, .unk]) (fun i => fS K x tb rd l1 l2 n (getS s (goAt n mid s i))) (go_invQ ⟨s, rfl⟩ (.rfl' _)) (fun i hi he => ?_) (fun he => ?_)
  · obtain ⟨s1, e1⟩ := he
    have hi2 : i < n := by omega
    have hs1 := goAt_inv hs hm i s1 (by omega) e1
    rw [getS_ok e1]
    walk_at "nrm"
    refine go_forR1Q (n := (n : Int)) (F1 := fS K x tb rd l1 l2 n s1) (eva_dat (evx_fldO (evv_var rfl) fS_x hcl_Spans hna_Spans_many rfl) eva_nil) (by omega) (fun j => ∃ s2, rowAt mid i s1 j = .ok s2) (fun j => [.val (.ref x), .dat (.int (mid : Int)), .dat (.int (i : Int)), .unk, .unk]) (fun j => fS K x tb rd l1 l2 n (getS s1 (rowAt mid i s1 j))) (go_invQ ⟨s1, rfl⟩ (.rfl' _)) (fun j hj he => ?_) (fun he => ?_)
    · obtain ⟨s2, e2⟩ := he
      have hj2 : j < n := by omega
      have hs2 := rowAt_inv hs1 hm hi2 j s2 (by omega) e2
      have hd2 := hdm hs2.i
      have hrn := rowAt_next e2
      rw [getS_ok e2]
      walk_at "nrm"
      have tA : ∀ es : List En, es[0]? = some (.val (.ref x)) → es[1]? = some (.dat (.int (mid : Int))) → es[2]? = some (.dat (.int (i : Int))) → EvX (tOp (rIxL K) (tOp (rIxL K) (tFld K (tVar 0) "table") (tVar 2)) (tVar 1)) es (fS K x tb rd l1 l2 n s2) (optD (tAt s2.T i mid)) (fS K x tb rd l1 l2 n s2) := fun es a b c => evx_T h hd2 hcl_Spans hna_Spans_table hi2 hm a (evx_var c) (evx_var b)
      have tB : ∀ es : List En, es[0]? = some (.val (.ref x)) → es[1]? = some (.dat (.int (mid : Int))) → es[3]? = some (.dat (.int (j : Int))) → EvX (tOp (rIxL K) (tOp (rIxL K) (tFld K (tVar 0) "table") (tVar 1)) (tVar 3)) es (fS K x tb rd l1 l2 n s2) (optD (tAt s2.T mid j)) (fS K x tb rd l1 l2 n s2) := fun es a b c => evx_T h hd2 hcl_Spans hna_Spans_table hm hj2 a (evx_var b) (evx_var c)
      have skip : by1 s2 mid i j = .ok s2 → ∀ es', Cov es' [.val (.ref x), .dat (.int (mid : Int)), .dat (.int (i : Int)), .unk, .unk] → Go Γ es' (fS K x tb rd l1 l2 n s2) (InvQ (∃ s2, rowAt mid i s1 (j + 1) = .ok s2) Γ [.val (.ref x), .dat (.int (mid : Int)), .dat (.int (i : Int)), .unk, .unk] (fS K x tb rd l1 l2 n (getS s1 (rowAt mid i s1 (j + 1))))) := fun e es' c => by
        rw [hrn, e]
        exact go_invQ ⟨s2, rfl⟩ c
      cases qa : tAt s2.T i mid with
      | none =>
        rw [qa] at tA
        refine go_if1 (b := false) (evt_and_f (evt_test (evx_op (tA _ rfl rfl rfl) evx_non (rv_notN (o := none))))) (fun z => by cases z) (fun _ => ?_)
        refine go_nx (skip ?_ _ (.same (.same (.same (.unk (.same .nil))))))
        unfold by1; rw [qa]
      | some a =>
        rw [qa] at tA
        cases qb : tAt s2.T mid j with
        | none =>
          rw [qb] at tB
          refine go_if1 (b := false) (evt_and_t (evt_test (evx_op (tA _ rfl rfl rfl) evx_non (rv_notN (o := some a)))) (evt_test (evx_op (tB _ rfl rfl rfl) evx_non (rv_notN (o := none))))) (fun z => by cases z) (fun _ => ?_)
          refine go_nx (skip ?_ _ (.same (.same (.same (.unk (.same .nil))))))
          unfold by1; rw [qa, qb]
        | some b =>
          rw [qb] at tB
          have hby : by1 s2 mid i j = if better (tAt s2.T i j) (a + b) = true then takeS s2 i j (a + b) (rAt s2.R i mid ++ (rAt s2.R mid j).tail) else .ok s2 := by unfold by1; rw [qa, qb]
          refine go_if1 (b := true) (evt_and_t (evt_test (evx_op (tA _ rfl rfl rfl) evx_non (rv_notN (o := some a)))) (evt_test (evx_op (tB _ rfl rfl rfl) evx_non (rv_notN (o := some b))))) (fun _ => ?_) (fun z => by cases z)
          refine go_asg (d := .int (a + b)) (F1 := fS K x tb rd l1 l2 n s2) (evx_op (tA _ rfl rfl rfl) (tB _ rfl rfl rfl) rv_I0) ?_
          walk_at "nrm"
          refine go_if1 (b := better (tAt s2.T i j) (a + b)) (evt_B (evx_methOn (evv_var rfl) fS_x (by decide +kernel) (by walk_at "eva") (I_Spans_is_better.mk x tb rd l1 l2 n s2 i j (a + b) h hd2 hi2 hj2) rfl)) (fun hbt => ?_) (fun hbf => ?_)
          · rw [if_pos hbt] at hby
            have n1 := hs2.i.ne i mid (by rw [qa]; simp)
            have n2 := hs2.i.ne mid j (by rw [qb]; simp)
            have k1 := hs2.c i
            have k2 := hs2.w j
            have m1 : (rAt s2.R i mid).length ≠ 0 := fun z => n1 (List.length_eq_zero_iff.mp z)
            have m2 : (rAt s2.R mid j).length ≠ 0 := fun z => n2 (List.length_eq_zero_iff.mp z)
            have hroad : ∀ es : List En, es[0]? = some (.val (.ref x)) → es[1]? = some (.dat (.int (mid : Int))) → es[2]? = some (.dat (.int (i : Int))) → es[3]? = some (.dat (.int (j : Int))) → EvX (tOp (rCatT K) (tOp (rIxL K) (tOp (rIxL K) (tFld K (tVar 0) "roads") (tVar 2)) (tVar 1)) (tSl (rSlT K) (tOp (rIxL K) (tOp (rIxL K) (tFld K (tVar 0) "roads") (tVar 1)) (tVar 3)) (tPart (tC (.int 1))) tNoPart)) es (fS K x tb rd l1 l2 n s2) (roadD (rAt s2.R i mid ++ (rAt s2.R mid j).tail)) (fS K x tb rd l1 l2 n s2) := fun es a b c d => by
              refine EvX.to (evx_op (evx_R h hd2 hcl_Spans hna_Spans_roads hi2 hm a (evx_var c) (evx_var b)) (evx_slT (evx_R h hd2 hcl_Spans hna_Spans_roads hm hj2 a (evx_var b) (evx_var d)) (evo_some evx_int) evo_none ?_) (rv_catT ?_ ?_)) ?_
              · rintro ⟨h2, _⟩
                have e : HT.sIx ((rAt s2.R mid j).map D.int).length 0 (some 1) = min 1 ((rAt s2.R mid j).map D.int).length := HT.sIx_nat _ _ 1
                rw [e, List.length_map] at h2
                omega
              · intro z
                exact n1 (List.map_eq_nil_iff.mp z)
              · rw [cutD_tail, List.length_tail, List.length_map, List.length_map]
                omega
              · rw [cutD_tail, ← List.map_tail, ← List.map_append]; rfl
            by_cases hij : i = j
            · have hby2 : by1 s2 mid i j = .error (rAt s2.R i mid ++ (rAt s2.R mid j).tail).dropLast := by rw [hby]; unfold takeS; rw [if_pos hij]
              have hge : goAt n mid s n = .error (rAt s2.R i mid ++ (rAt s2.R mid j).tail).dropLast := by
                refine goAt_err (i := i + 1) ?_ n (by omega)
                rw [goAt_next e1]
                refine rowAt_err (j := j + 1) ?_ n (by omega)
                rw [hrn, hby2]
              refine go_dropE (eve_methEn (evv_var rfl) fS_x (by decide +kernel) (eva_dat (evx_var rfl) (eva_dat (evx_var rfl) (eva_dat (evx_var rfl) (eva_dat (hroad _ rfl rfl rfl rfl) eva_nil)))) (I_Spans_take.err x tb rd l1 l2 n s2 i j (a + b) _ hij (by simp [n1])) ad_junk) (gox_junk ?_ (rex2 _ hge))
              rw [ad_junk, fS_ad h hd2, fS_ad h (hdm hs.i)]
            · have hby2 : by1 s2 mid i j = .ok (putS s2 i j (a + b) (rAt s2.R i mid ++ (rAt s2.R mid j).tail)) := by rw [hby]; unfold takeS; rw [if_neg hij]
              have hs3 := by1_inv hs2 hm hi2 hj2 hby2
              refine go_drop (d := .non) (F1 := fS K x tb rd l1 l2 n (putS s2 i j (a + b) (rAt s2.R i mid ++ (rAt s2.R mid j).tail))) (evx_methEn (evv_var rfl) fS_x (by decide +kernel) (eva_dat (evx_var rfl) (eva_dat (evx_var rfl) (eva_dat (evx_var rfl) (eva_dat (hroad _ rfl rfl rfl rfl) eva_nil)))) (I_Spans_take.ok x tb rd l1 l2 n s2 i j (a + b) _ h hd2 hi2 hj2 hij) ?_) ?_
              · rw [fS_ad h hd2, fS_ad h (hdm hs3.i)]
              · refine go_nx (go_nx ?_)
                show Go Γ _ _ (InvQ _ _ _ (fS K x tb rd l1 l2 n (getS s1 (rowAt mid i s1 (j + 1)))))
                rw [hrn, hby2]
                exact go_invQ ⟨_, rfl⟩ (.same (.same (.same (.unk (.unk .nil)))))
          · rw [if_neg (by rw [hbf]; simp)] at hby
            exact go_nx (go_nx (skip hby _ (.same (.same (.same (.unk (.unk .nil)))))))
    · obtain ⟨s2, e2⟩ := he
      rw [Int.toNat_natCast] at e2
      have e3 : goAt n mid s (i + 1) = .ok s2 := by rw [goAt_next e1]; exact e2
      rw [Int.toNat_natCast, getS_ok e2]
      refine go_nx ?_
      show Go Γ _ _ (InvQ _ _ _ (fS K x tb rd l1 l2 n (getS s (goAt n mid s (i + 1)))))
      rw [getS_ok e3]
      exact go_invQ ⟨s2, e3⟩ (.same (.same (.unk (.same (.same .nil)))))
  · obtain ⟨s', e'⟩ := he
    rw [Int.toNat_natCast] at e'
    rw [Int.toNat_natCast, getS_ok e']
    exact go_fin hn (ret2 s' e')

abbrev names_Spans___init__ : List Str := ["self", "many", "bounds", "moment", "one", "other", "most", "middle", "j", "k"]
theorem sc_Spans___init__ : FnScope names_Spans___init__ ["self", "many", "bounds"] (defScope (inClass (topS 10) 0)) := ⟨rfl, rfl, rfl, by decide +kernel, rfl, by decide +kernel, by decide +kernel⟩
theorem ok_Spans___init__ (T : Tx K mg) {f : Addr} {fd : FuncData} (F : FunD K "__init__" "Spans.__init__" (defArgs (inClass (topS 10) 0)) (defBody (inClass (topS 10) 0)) (defScope (inClass (topS 10) 0)) [] [] f fd) (M : Mk K (He.ga K "Spans") f) (gm : mg "Spans" = some (.ref (He.ga K "Spans"))) (x_NoTimes : MakX P w K mg base 1 "NoTimes" (He.ga K "NoTimes") (sp1 (He.ga K "NoTimes") "ring")) (c_Spans_is_better : Met P w K mg base CX0 1 (He.ga K "Spans") "is_better" (spD (I_Spans_is_better K))) (c_Spans_go_by : Met P w K mg base (L2.CX P w) 4 (He.ga K "Spans") "go_by" (spE (I_Spans_go_by K))) : Mak P w K mg base (L2.CX P w) 5 "Spans" (He.ga K "Spans") (spE (I_Spans___init__ K)) := by
  have nd := sc_Spans___init__.nd
  have hcl_Spans := T.cl_Spans
  have hcl_Web := T.cl_Web
  have hna_Spans_many := T.na_Spans_many
  have hna_Spans_roads := T.na_Spans_roads
  have hna_Spans_table := T.na_Spans_table
  have hna_Web_falling := T.na_Web_falling
  have hna_Web_last := T.na_Web_last
  have hna_Web_many := T.na_Web_many
  have hna_Web_tied := T.na_Web_tied
  refine makE M F gm sc_Spans___init__ (F.bindsN fun _ _ _ _ _ _ us hl => match us, hl with | [_, _, _], _ => rfl) (fun _ _ _ _ hi => by cases hi <;> rfl) fun cdv A outer s H E hr tk => ⟨_, (pss_cons (k_sfld (K := K) rfl (pv 0) (pv 1))
  (pss_cons (k_sfld (K := K) rfl (pv 0) (pe_lc (own := [("j", 8)]) rfl nd (pi_range1 (by rfl) T.range_ (pa_cons (pv 1) pa_nil)) (by refine blkOk_by (own := [("j", 8)]) (N := names_Spans___init__) (sc := defScope (inClass (topS 10) 0)) ?_; decide +kernel) (fun _ _ _ _ _ => (pg_name (i := 8) nd rfl (by first | exact Or.inl rfl | exact Or.inr rfl))) (fun _ _ _ _ _ => pts_nil) (fun _ _ _ _ _ => (pe_lc (own := [("k", 9)]) rfl nd (pi_range1 (by rfl) T.range_ (pa_cons (pv 1) pa_nil)) (by refine blkOk_by (own := [("k", 9)]) (N := names_Spans___init__) (sc := { kind := ScopeKind.function, names := [(".0", NameKind.local), ("j", NameKind.local), ("range", NameKind.globalImplicit), ("many", NameKind.cell)], isGenerator := false, isCoroutine := false }) ?_; decide +kernel) (fun _ _ _ _ _ => (pg_name (i := 9) nd rfl (by first | exact Or.inl rfl | exact Or.inr rfl))) (fun _ _ _ _ _ => pts_nil) (fun _ _ _ _ _ => pe_non)))))
  (pss_cons (k_sfld (K := K) rfl (pv 0) (pe_lc (own := [("j", 8)]) rfl nd (pi_range1 (by rfl) T.range_ (pa_cons (pv 1) pa_nil)) (by refine blkOk_by (own := [("j", 8)]) (N := names_Spans___init__) (sc := defScope (inClass (topS 10) 0)) ?_; decide +kernel) (fun _ _ _ _ _ => (pg_name (i := 8) nd rfl (by first | exact Or.inl rfl | exact Or.inr rfl))) (fun _ _ _ _ _ => pts_nil) (fun _ _ _ _ _ => (pe_lc (own := [("k", 9)]) rfl nd (pi_range1 (by rfl) T.range_ (pa_cons (pv 1) pa_nil)) (by refine blkOk_by (own := [("k", 9)]) (N := names_Spans___init__) (sc := { kind := ScopeKind.function, names := [(".0", NameKind.local), ("j", NameKind.local), ("range", NameKind.globalImplicit), ("many", NameKind.cell)], isGenerator := false, isCoroutine := false }) ?_; decide +kernel) (fun _ _ _ _ _ => (pg_name (i := 9) nd rfl (by first | exact Or.inl rfl | exact Or.inr rfl))) (fun _ _ _ _ _ => pts_nil) (fun _ _ _ _ _ => (pe_tup pa_nil))))))
  (pss_cons (ps_for (passes_of rfl) rfl (pi_range1 (by rfl) T.range_ (pa_cons (pv 1) pa_nil)) (pg_name (i := 3) nd rfl (by first | exact Or.inl rfl | exact Or.inr rfl))
  (pss_cons (ps_asg pe_int (pg_sub (pe_ix (k_ixL (K := K) rfl) (k_fld (K := K) rfl (pv 0)) (pv 3) (fun _ _ => rfl)) (pv 3) set_list))
  (pss_cons (ps_asg (pe_tup (pa_cons (pv 3) pa_nil)) (pg_sub (pe_ix (k_ixL (K := K) rfl) (k_fld (K := K) rfl (pv 0)) (pv 3) (fun _ _ => rfl)) (pv 3) set_list))
  pss_nil)))
  (pss_cons (ps_for (passes_of rfl) rfl (k_pl (K := K) rfl (pv 2)) (k_pgt (K := K) (n := 3) rfl rfl (pgs_cons (pg_name (i := 4) nd rfl (by first | exact Or.inl rfl | exact Or.inr rfl)) (pgs_cons (pg_name (i := 5) nd rfl (by first | exact Or.inl rfl | exact Or.inr rfl)) (pgs_cons (pg_name (i := 6) nd rfl (by first | exact Or.inl rfl | exact Or.inr rfl)) pgs_nil))))
  (pss_cons (ps_if (PW.pt (pw_and (pt_cmpR op_eq (pv 4) (pv 5) (nomark _)) (pw_and1 (pt_cmpR op_lt (pv 6) pe_int (nomark _)))))
  (pss_cons (ps_raise rfl tk (pmk_x x_NoTimes hr (by decide) rfl (pa_cons (pe_lst (pa_cons (pv 4) pa_nil)) pa_nil)))
  pss_nil)
  pss_nil)
  (pss_cons (ps_if (PW.pt (pw_and (pt_cmpR op_ne (pv 4) (pv 5) (nomark _)) (pw_and1 (pt_val (pe_mt c_Spans_is_better hr (by decide) (pv 0) (pa_cons (pv 4) (pa_cons (pv 5) (pa_cons (pv 6) pa_nil))))))))
  (pss_cons (ps_asg (pv 6) (pg_sub (pe_ix (k_ixL (K := K) rfl) (k_fld (K := K) rfl (pv 0)) (pv 4) (fun _ _ => rfl)) (pv 5) set_list))
  (pss_cons (ps_asg (pe_tup (pa_cons (pv 4) (pa_cons (pv 5) pa_nil))) (pg_sub (pe_ix (k_ixL (K := K) rfl) (k_fld (K := K) rfl (pv 0)) (pv 4) (fun _ _ => rfl)) (pv 5) set_list))
  pss_nil))
  pss_nil)
  pss_nil)))
  (pss_cons (ps_for (passes_of rfl) rfl (pi_range1 (by rfl) T.range_ (pa_cons (pv 1) pa_nil)) (pg_name (i := 7) nd rfl (by first | exact Or.inl rfl | exact Or.inr rfl))
  (pss_cons (ps_expr (pe_mtX c_Spans_go_by hr (by decide) tk (pv 0) (pa_cons (pv 7) pa_nil)))
  pss_nil))
  pss_nil)))))), ?_⟩
  rintro _ _ _ _ Γ Dn hI hS hn ret rex
  obtain ⟨x, n, bs, h1, hn8, hb, hl, rfl, rfl, hok, herr⟩ := init_cases hI
  have rex2 : ∀ z, spans n bs = .error z → RetX Γ.S Γ.G Γ.H (junk [(x, .obj (cS K) [] [])]) (cNT K) ["ring"] [ringD z] E := fun z e => by
    obtain ⟨e1, e2⟩ := herr z e
    have := rex _ _ _ e1
    rw [e2] at this; exact this
  have ret2 : ∀ s, spans n bs = .ok s → Ret Γ [(x, .obj (cS K) nS (aS n s))] .non Dn.rt := fun s e => by
    obtain ⟨e1, e2⟩ := hok s e
    have := ret _ e1
    rw [e2] at this; exact this
  show Go Γ [.val (.ref x), .dat (.int (n : Int)), .dat (.lst (bs.map e3)), .unk, .unk, .unk, .unk, .unk, .unk, .unk] [(x, .obj (cS K) [] [])] _
  refine go_sfld (F1 := [(x, .obj (cS K) [] [])]) (by walk_at "evx") (evv_var rfl) List.mem_cons_self hcl_Spans hna_Spans_many (by simp) ?_
  rw [chg_eq, chg_nil]
  show Go Γ _ [(x, .obj (cS K) ["many"] [.dat (.int (n : Int))])] _
  refine go_sfldM (n := n) (row := List.replicate n .non) ?_ (fun F' => evv_var rfl) List.mem_cons_self hcl_Spans hna_Spans_table (by simp) (fun tb l1 hl1 nd1 => ?_)
  · refine EvM.toN (evm_lcR1 (n := (n : Int)) (row := List.replicate n D.non) (by walk_at "eva") (by omega) (fun i => [.val (.ref x), .dat (.int (n : Int)), .dat (.lst (bs.map e3)), .unk, .unk, .unk, .unk, .unk, .dat (.int (i : Int)), .unk]) (fun i _ => gog_name) (fun j hj => hj) (fun i hi => ?_)) (Int.toNat_natCast n) rfl
    refine EvN.toL (evn_mapR (n := (n : Int)) (fun _ => .non) (fun j => [.val (.ref x), .dat (.int (n : Int)), .dat (.lst (bs.map e3)), .unk, .unk, .unk, .unk, .unk, .dat (.int (i : Int)), .dat (.int j)]) (by walk_at "eva") (by omega) (fun j => gog_name) (fun j hj => hj) (fun j _ _ => evx_non)) (by rw [Int.toNat_natCast]; exact List.eq_replicate_iff.mpr ⟨by simp, by simp⟩)
  rw [chg_eq, chg_nil]
  show Go Γ _ ((x, .obj (cS K) ["many", "table"] [.dat (.int (n : Int)), .val (.ref tb)]) :: (tb, FO.raw (.lst (l1.map V.ref))) :: zF l1 (List.replicate n (List.replicate n D.non))) _
  refine go_sfldM (n := n) (row := List.replicate n (.tup [])) ?_ (fun F' => evv_var rfl) List.mem_cons_self hcl_Spans hna_Spans_roads (by simp) (fun rd l2 hl2 nd2 => ?_)
  · refine EvM.toN (evm_lcR1 (n := (n : Int)) (row := List.replicate n (D.tup [])) (by walk_at "eva") (by omega) (fun i => [.val (.ref x), .dat (.int (n : Int)), .dat (.lst (bs.map e3)), .unk, .unk, .unk, .unk, .unk, .dat (.int (i : Int)), .unk]) (fun i _ => gog_name) (fun j hj => hj) (fun i hi => ?_)) (Int.toNat_natCast n) rfl
    refine EvN.toL (evn_mapR (n := (n : Int)) (fun _ => .tup []) (fun j => [.val (.ref x), .dat (.int (n : Int)), .dat (.lst (bs.map e3)), .unk, .unk, .unk, .unk, .unk, .dat (.int (i : Int)), .dat (.int j)]) (by walk_at "eva") (by omega) (fun j => gog_name) (fun j hj => hj) (fun j _ _ => by walk_at "evx")) (by rw [Int.toNat_natCast]; exact List.eq_replicate_iff.mpr ⟨by simp, by simp⟩)
  refine go_ndp fun ndA => ?_
  have hz1 : ad (zF l1 (List.replicate n (List.replicate n D.non))) = l1 := zF_ad (by rw [hl1, List.length_replicate])
  have hz2 : ad (zF l2 (List.replicate n (List.replicate n (D.tup [])))) = l2 := zF_ad (by rw [hl2, List.length_replicate])
  rw [ad_app, ad_putM] at ndA
  have ndA2 : (x :: tb :: l1 ++ rd :: l2).Nodup := by
    have e : ad ((x, FO.obj (cS K) ["many", "table"] [.dat (.int (n : Int)), .val (.ref tb)]) :: (tb, FO.raw (.lst (l1.map V.ref))) :: zF l1 (List.replicate n (List.replicate n D.non))) = x :: tb :: l1 := by
      show x :: tb :: ad (zF l1 _) = _
      rw [hz1]
    have e2 : ad ((rd, FO.raw (.lst (l2.map V.ref))) :: zF l2 (List.replicate n (List.replicate n (D.tup [])))) = rd :: l2 := by
      show rd :: ad (zF l2 _) = _
      rw [hz2]
    rw [e, e2] at ndA
    exact ndA
  have nx0 : x ∉ tb :: l1 := fun z => by
    have := (List.nodup_cons.mp (List.nodup_append.mp ndA2).1).1
    exact this z
  have hout : x ∉ ad ((tb, FO.raw (.lst (l1.map V.ref))) :: zF l1 (List.replicate n (List.replicate n D.non))) := by
    show x ∉ tb :: ad (zF l1 _)
    rw [hz1]; exact nx0
  rw [chg_eq, chg_out hout]
  have eT : ((sp0 n).T.map (·.map optD)) = List.replicate n (List.replicate n D.non) := by unfold sp0; simp [optD]
  have eR : ((sp0 n).R.map (·.map roadD)) = List.replicate n (List.replicate n (D.tup [])) := by unfold sp0; simp [roadD]
  refine go_perm (F1 := fS K x tb rd l1 l2 n (sp0 n)) ?_ ?_
  · unfold fS
    rw [eT, eR]
    refine List.Perm.cons _ (List.Perm.cons _ ?_)
    show (zF l1 _ ++ (rd, FO.raw (.lst (l2.map V.ref))) :: zF l2 _).Perm _
    exact List.perm_middle
  have hA : AdS x tb rd l1 l2 n := ⟨hl1, hl2, by
    have p : (x :: tb :: l1 ++ rd :: l2).Perm (x :: tb :: rd :: (l1 ++ l2)) := List.Perm.cons _ (List.Perm.cons _ List.perm_middle)
    exact p.nodup_iff.mp ndA2⟩
  have hdi := fun k hk => diag_ok (n := n) k hk
  refine go_forR1 (n := (n : Int)) (F1 := fS K x tb rd l1 l2 n (sp0 n)) (by walk_at "eva") (by omega) (fun i => [.val (.ref x), .dat (.int (n : Int)), .dat (.lst (bs.map e3)), .unk, .unk, .unk, .unk, .unk, .unk, .unk]) (fun i => fS K x tb rd l1 l2 n (diagAt n i)) (go_inv (.rfl' _)) (fun i hi => ?_) ?_
  · have hi2 : i < n := by omega
    have hd := hdi i (by omega)
    walk_at "nrm"
    refine go_setT (v := some 0) hA ⟨hd.t, hd.r⟩ hcl_Spans hna_Spans_table hi2 hi2 rfl (EvX.to evx_int (by rfl)) (evx_var rfl) (evx_var rfl) ?_
    refine go_setR (s := ⟨setM (diagAt n i).T i i (some 0), (diagAt n i).R⟩) (v := [(i : Int)]) hA ⟨hd.t.set hi2, hd.r⟩ hcl_Spans hna_Spans_roads hi2 hi2 rfl (EvX.to (by walk_at "evx") (by rfl)) (evx_var rfl) (evx_var rfl) ?_
    exact go_nx (go_inv (.same (.same (.same (.unk (.same (.same (.same (.same (.same (.same .nil)))))))))))
  rw [Int.toNat_natCast]
  have hbi := fun k s e => bndAt_inv (n := n) hb k s e
  have hdm : ∀ {M : Nat} {s : SpS}, SpI n M s → DmS n s := fun q => ⟨q.t, q.r⟩
  refine go_forLQ (ds := bs.map e3) (F1 := fS K x tb rd l1 l2 n (diagAt n n)) (js := [4, 5, 6]) (evx_var rfl) (fun k => ∃ s1, bndAt n bs k = .ok s1) (fun i => [.val (.ref x), .dat (.int (n : Int)), .dat (.lst (bs.map e3)), .unk, .unk, .unk, .unk, .unk, .unk, .unk]) (fun k => fS K x tb rd l1 l2 n (getS (diagAt n n) (bndAt n bs k)))
    (fun i => [.val (.ref x), .dat (.int (n : Int)), .dat (.lst (bs.map e3)), .unk, .dat (.int (bs.getD i (0, 0, 0)).1), .dat (.int (bs.getD i (0, 0, 0)).2.1), .dat (.int (bs.getD i (0, 0, 0)).2.2), .unk, .unk, .unk]) (fun i d hd => ?_) (fun Kn => go_invQ ⟨_, rfl⟩ (.rfl' _)) (fun i d hd he Kn => ?_) (fun he => ?_)
  · rw [List.getElem?_map] at hd
    obtain ⟨b, hbk, e⟩ := Option.map_eq_some_iff.mp hd
    subst e
    rw [List.getD_eq_getElem?_getD, hbk]
    exact gog_tup3
  · rw [List.getElem?_map] at hd
    obtain ⟨b, hbk, e⟩ := Option.map_eq_some_iff.mp hd
    obtain ⟨s1, e1⟩ := he
    have hil := (List.getElem?_eq_some_iff.mp hbk).1
    have hs1 := hbi i s1 e1
    have hbo := hb b (List.mem_of_getElem? hbk)
    have hnext := bndAt_next e1 hbk
    rw [getS_ok e1, List.getD_eq_getElem?_getD, hbk]
    obtain ⟨b1, b2, b3⟩ := b
    obtain ⟨q1, q2, q3, q4, _, _⟩ := hbo
    dsimp only [Option.getD_some] at q1 q2 q3 q4 ⊢
    obtain ⟨i1, rfl⟩ : ∃ k : Nat, b1 = (k : Int) := ⟨b1.toNat, by omega⟩
    obtain ⟨i2, rfl⟩ : ∃ k : Nat, b2 = (k : Int) := ⟨b2.toNat, by omega⟩
    have hi1 : i1 < n := by omega
    have hi2 : i2 < n := by omega
    have hb1 : bnd1 s1 ((i1 : Int), (i2 : Int), b3) = if (i1 : Int) = (i2 : Int) ∧ b3 < 0 then .error [(i1 : Int)] else if (i1 : Int) ≠ (i2 : Int) ∧ better (tAt s1.T i1 i2) b3 = true then .ok (putS s1 i1 i2 b3 [(i1 : Int), (i2 : Int)]) else .ok s1 := by unfold bnd1; rfl
    by_cases c1 : (i1 : Int) = (i2 : Int) ∧ b3 < 0
    · rw [if_pos c1] at hb1
      have hse : spans n bs = .error [(i1 : Int)] := by
        refine midAt_err (k := 0) ?_ n (by omega)
        refine bndAt_err (k := i + 1) ?_ bs.length (by omega)
        rw [hnext, hb1]
      refine go_if (b := true) (evt_and_t (EvT.to (by walk_at "evt") (decide_eq_true c1.1)) (EvT.to (by walk_at "evt") (decide_eq_true c1.2))) (fun _ => ?_) (fun z => by cases z)
      refine go_raise1 (d := ringD [(i1 : Int)]) (F1 := fS K x tb rd l1 l2 n s1) (EvX.to (by walk_at "evx") (by rfl)) ?_
      intro dx fs G2 H2 σ2 st hd1 hn1 hr1
      have st2 : SF ([(x, FO.obj (cS K) nS [.dat (.int (n : Int)), .val (.ref tb), .val (.ref rd)])] ++ ((tb, .raw (.lst (l1.map V.ref))) :: (rd, .raw (.lst (l2.map V.ref))) :: (zF l1 (s1.T.map (·.map optD)) ++ zF l2 (s1.R.map (·.map roadD))))) G2 H2 := st.s.f
      exact rex2 _ hse dx fs G2 H2 st2.left.junk st.g hd1 hn1 hr1
    · rw [if_neg c1] at hb1
      refine go_if (b := false) (F1 := fS K x tb rd l1 l2 n s1) (by
        by_cases c2 : (i1 : Int) = (i2 : Int)
        · exact evt_and_t (EvT.to (by walk_at "evt") (decide_eq_true c2)) (EvT.to (by walk_at "evt") (decide_eq_false (fun z => c1 ⟨c2, z⟩)))
        · exact evt_and_f (EvT.to (by walk_at "evt") (decide_eq_false c2))) (fun z => by cases z) (fun _ => ?_)
      refine go_nx ?_
      have hbet : ∀ es : List En, es[0]? = some (.val (.ref x)) → es[4]? = some (.dat (.int (i1 : Int))) → es[5]? = some (.dat (.int (i2 : Int))) → es[6]? = some (.dat (.int b3)) → EvX (tMeth (cS K) "is_better" (spD (I_Spans_is_better K)) [] E0 (tVar 0) (tCons (tVar 4) (tCons (tVar 5) (tCons (tVar 6) tNil)))) es (fS K x tb rd l1 l2 n s1) (.bl (better (tAt s1.T i1 i2) b3)) (fS K x tb rd l1 l2 n s1) := fun es a1 a2 a3 a4 =>
        evx_methOn (evv_var a1) fS_x (by decide +kernel) (eva_dat (evx_var a2) (eva_dat (evx_var a3) (eva_dat (evx_var a4) eva_nil))) (I_Spans_is_better.mk x tb rd l1 l2 n s1 i1 i2 b3 hA (hdm hs1) hi1 hi2) rfl
      by_cases c2 : (i1 : Int) ≠ (i2 : Int) ∧ better (tAt s1.T i1 i2) b3 = true
      · rw [if_pos c2] at hb1
        refine go_if1 (b := true) (evt_and_t (EvT.to (evt_test (evx_op (evx_var rfl) (evx_var rfl) rv_ne_int)) (by rw [decide_eq_false c2.1]; rfl)) (EvT.to (evt_B (hbet _ rfl rfl rfl rfl)) c2.2)) (fun _ => ?_) (fun z => by cases z)
        refine go_setT (v := some b3) hA (hdm hs1) hcl_Spans hna_Spans_table hi1 hi2 rfl (EvX.to (evx_var rfl) (by rfl)) (evx_var rfl) (evx_var rfl) ?_
        refine go_setR (s := ⟨setM s1.T i1 i2 (some b3), s1.R⟩) (v := [(i1 : Int), (i2 : Int)]) hA ⟨hs1.t.set hi1, hs1.r⟩ hcl_Spans hna_Spans_roads hi1 hi2 rfl (EvX.to (by walk_at "evx") (by rfl)) (evx_var rfl) (evx_var rfl) ?_
        refine go_nx (go_nx ?_)
        show Go { Γ with K := Kn } _ _ (InvQ _ _ _ (fS K x tb rd l1 l2 n (getS (diagAt n n) (bndAt n bs (i + 1)))))
        rw [hnext, hb1]
        exact go_invQ ⟨_, rfl⟩ (.same (.same (.same (.same (.unk (.unk (.unk (.same (.same (.same .nil))))))))))
      · rw [if_neg c2] at hb1
        by_cases c3 : (i1 : Int) = (i2 : Int)
        · refine go_if1 (b := false) (evt_and_f (EvT.to (evt_test (evx_op (evx_var rfl) (evx_var rfl) rv_ne_int)) (by rw [decide_eq_true c3]; rfl))) (fun z => by cases z) (fun _ => ?_)
          refine go_nx (go_nx ?_)
          show Go { Γ with K := Kn } _ _ (InvQ _ _ _ (fS K x tb rd l1 l2 n (getS (diagAt n n) (bndAt n bs (i + 1)))))
          rw [hnext, hb1]
          exact go_invQ ⟨_, rfl⟩ (.same (.same (.same (.same (.unk (.unk (.unk (.same (.same (.same .nil))))))))))
        · have hbf : better (tAt s1.T i1 i2) b3 = false := by
            cases q : better (tAt s1.T i1 i2) b3 with
            | false => rfl
            | true => exact absurd ⟨c3, q⟩ c2
          refine go_if1 (b := false) (evt_and_t (EvT.to (evt_test (evx_op (evx_var rfl) (evx_var rfl) rv_ne_int)) (by rw [decide_eq_false c3]; rfl)) (EvT.to (evt_B (hbet _ rfl rfl rfl rfl)) hbf)) (fun z => by cases z) (fun _ => ?_)
          refine go_nx (go_nx ?_)
          show Go { Γ with K := Kn } _ _ (InvQ _ _ _ (fS K x tb rd l1 l2 n (getS (diagAt n n) (bndAt n bs (i + 1)))))
          rw [hnext, hb1]
          exact go_invQ ⟨_, rfl⟩ (.same (.same (.same (.same (.unk (.unk (.unk (.same (.same (.same .nil))))))))))
  obtain ⟨s1, e1⟩ := he
  rw [List.length_map] at e1
  rw [List.length_map, getS_ok e1]
  have e1' : midAt n bs 0 = .ok s1 := e1
  refine go_forR1Q (n := (n : Int)) (F1 := fS K x tb rd l1 l2 n s1) (by walk_at "eva") (by omega) (fun m => ∃ s2, midAt n bs m = .ok s2) (fun i => [.val (.ref x), .dat (.int (n : Int)), .dat (.lst (bs.map e3)), .unk, .unk, .unk, .unk, .unk, .unk, .unk]) (fun m => fS K x tb rd l1 l2 n (getS s1 (midAt n bs m))) (by rw [getS_ok e1']; exact go_invQ ⟨s1, e1'⟩ (.rfl' _)) (fun m hm he => ?_) (fun he => ?_)
  · obtain ⟨s2, e2⟩ := he
    have hm2 : m < n := by omega
    have hs2 := midAt_inv hb m s2 (by omega) e2
    have hpow : 2 * 2 ^ m ≤ 1000 := by
      have : 2 ^ m ≤ 2 ^ 8 := Nat.pow_le_pow_right (by omega) (by omega)
      omega
    have hnext := midAt_next e2
    rw [getS_ok e2]
    walk_at "nrm"
    cases q : goAt n m s2 n with
    | ok s3 =>
      have e3 : midAt n bs (m + 1) = .ok s3 := by rw [hnext]; exact q
      have hs3 := midAt_inv hb (m + 1) s3 (by omega) e3
      refine go_drop (d := .non) (F1 := fS K x tb rd l1 l2 n s3) (evx_methEn (evv_var rfl) fS_x (by decide +kernel) (by walk_at "eva") (I_Spans_go_by.ok x tb rd l1 l2 n _ s2 s3 m hA hs2.round hpow hn8 hm2 q) (by rw [fS_ad hA (hdm hs2), fS_ad hA (hdm hs3)])) ?_
      refine go_nx ?_
      show Go Γ _ _ (InvQ _ _ _ (fS K x tb rd l1 l2 n (getS s1 (midAt n bs (m + 1)))))
      rw [getS_ok e3]
      exact go_invQ ⟨s3, e3⟩ (.same (.same (.same (.same (.same (.same (.same (.unk (.same (.same .nil))))))))))
    | error z =>
      have hse : spans n bs = .error z := midAt_err (k := m + 1) (by rw [hnext]; exact q) n (by omega)
      refine go_dropE (eve_methEn (Fd' := junk (fS K x tb rd l1 l2 n s2)) (evv_var rfl) fS_x (by decide +kernel) (by walk_at "eva") (I_Spans_go_by.err x tb rd l1 l2 n _ s2 z m hA hs2.round hpow hn8 hm2 q) ad_junk) ?_
      intro dx fs G2 H2 σ2 st hd1 hn1 hr1
      have st2 : SF ([(x, FO.junk)] ++ (junk ((tb, .raw (.lst (l1.map V.ref))) :: (rd, .raw (.lst (l2.map V.ref))) :: (zF l1 (s2.T.map (·.map optD)) ++ zF l2 (s2.R.map (·.map roadD)))))) G2 H2 := st.s.f
      exact rex2 _ hse dx fs G2 H2 st2.left.junk st.g hd1 hn1 hr1
  · obtain ⟨s2, e2⟩ := he
    rw [Int.toNat_natCast] at e2
    rw [Int.toNat_natCast, getS_ok e2]
    have hs2 := midAt_inv hb n s2 (Nat.le_refl n) e2
    refine go_freezeS hA (hdm hs2) ?_
    exact go_fin hn (ret2 s2 e2)

abbrev names_Web_bounds : List Str := ["self", "found", "moment", "one", "other", "least", "most"]
theorem sc_Web_bounds : FnScope names_Web_bounds ["self"] (defScope (inClass (topS 8) 8)) := ⟨rfl, rfl, rfl, by decide +kernel, rfl, by decide +kernel, by decide +kernel⟩
theorem ok_Web_bounds (T : Tx K mg) {f : Addr} {fd : FuncData} (F : FunD K "bounds" "Web.bounds" (defArgs (inClass (topS 8) 8)) (defBody (inClass (topS 8) 8)) (defScope (inClass (topS 8) 8)) [] [] f fd) (c : Cls K (He.ga K "Web")) (me : Meth K (He.ga K "Web") "bounds" f)  : Met P w K mg base CX0 1 (He.ga K "Web") "bounds" (spD (I_Web_bounds K)) := by
  have nd := sc_Web_bounds.nd
  have hcl_Spans := T.cl_Spans
  have hcl_Web := T.cl_Web
  have hna_Spans_many := T.na_Spans_many
  have hna_Spans_roads := T.na_Spans_roads
  have hna_Spans_table := T.na_Spans_table
  have hna_Web_falling := T.na_Web_falling
  have hna_Web_last := T.na_Web_last
  have hna_Web_many := T.na_Web_many
  have hna_Web_tied := T.na_Web_tied
  refine metI c me F sc_Web_bounds (F.bindsN fun _ _ _ _ _ _ us hl => match us, hl with | [_], _ => rfl) (fun _ _ _ _ hi => by cases hi <;> rfl) fun cdv A outer s H E hr => ⟨_, (pss_cons (ps_set (i := 1) nd rfl (Or.inl rfl) (pe_lst pa_nil))
  (pss_cons (ps_for PassesOwn.never rfl (pi_range2 (by rfl) T.range_ (pa_cons pe_int (pa_cons (k_fld (K := K) rfl (pv 0)) pa_nil))) (pg_name (i := 2) nd rfl (by first | exact Or.inl rfl | exact Or.inr rfl))
  (pss_cons (ps_expr (k_bm (K := K) rfl PySem.F.plainAttrs_list PySem.F.slot_list_append PySem.F.type_list_append mt_append (pv 1) (pa_cons (pe_tup (pa_cons pe_int (pa_cons (pv 2) (pa_cons (k_fld (K := K) rfl (pv 0)) pa_nil)))) pa_nil)))
  (pss_cons (ps_expr (k_bm (K := K) rfl PySem.F.plainAttrs_list PySem.F.slot_list_append PySem.F.type_list_append mt_append (pv 1) (pa_cons (pe_tup (pa_cons (pv 2) (pa_cons pe_int (pa_cons pe_int pa_nil)))) pa_nil)))
  pss_nil)))
  (pss_cons (ps_for PassesOwn.never rfl (k_pl (K := K) rfl (pe_op op_cat (k_fld (K := K) rfl (pv 0)) (k_fld (K := K) rfl (pv 0)))) (k_pgt (K := K) (n := 4) rfl rfl (pgs_cons (pg_name (i := 3) nd rfl (by first | exact Or.inl rfl | exact Or.inr rfl)) (pgs_cons (pg_name (i := 4) nd rfl (by first | exact Or.inl rfl | exact Or.inr rfl)) (pgs_cons (pg_name (i := 5) nd rfl (by first | exact Or.inl rfl | exact Or.inr rfl)) (pgs_cons (pg_name (i := 6) nd rfl (by first | exact Or.inl rfl | exact Or.inr rfl)) pgs_nil)))))
  (pss_cons (ps_expr (k_bm (K := K) rfl PySem.F.plainAttrs_list PySem.F.slot_list_append PySem.F.type_list_append mt_append (pv 1) (pa_cons (pe_tup (pa_cons (pv 3) (pa_cons (pv 4) (pa_cons (pv 6) pa_nil)))) pa_nil)))
  (pss_cons (ps_expr (k_bm (K := K) rfl PySem.F.plainAttrs_list PySem.F.slot_list_append PySem.F.type_list_append mt_append (pv 1) (pa_cons (pe_tup (pa_cons (pv 4) (pa_cons (pv 3) (pa_cons (pe_op op_sub pe_int (pv 5)) pa_nil)))) pa_nil)))
  pss_nil)))
  (pss_cons (ps_ret (pv 1))
  pss_nil)))), ?_⟩
  rintro _ _ _ _ Γ Dn ⟨w, h⟩ hS hn ret
  have hm1 := h.m1
  have hm8 := h.m8
  have hbl := bounds_len h
  have htl := h.tl
  have hfl := h.fl
  show Go Γ [.dat (oW K w), .unk, .unk, .unk, .unk, .unk, .unk] [] _
  refine go_new (F1 := []) (ds := []) (evn_lst eva_nil rfl (by simp)) fun l => ?_
  walk_at "nrm"
  refine go_forR2 (lo := 1) (n := w.many) (F1 := [(l, .own [])]) (by walk_at "eva") (by omega) (fun i => [.dat (oW K w), .val (.ref l), .unk, .unk, .unk, .unk, .unk]) (fun i => [(l, .own ((bndM w.last i).map e3))]) (go_inv (.rfl' _)) (fun i hi => ?_) ?_
  · have hlen := bndM_len (last := w.last) i
    rw [bndM_s]
    have e1 : (1 : Int) + (i : Int) = ((i + 1 : Nat) : Int) := by omega
    rw [e1]
    walk_at "nrm"
    refine go_append1 (d := e3 (0, ((i + 1 : Nat) : Int), w.last)) (evv_var rfl) (EvX.to (by walk_at "evx") (by rfl)) (by rw [List.length_map]; omega) ?_
    refine go_append1 (d := e3 (((i + 1 : Nat) : Int), 0, 0)) (evv_var rfl) (EvX.to (by walk_at "evx") (by rfl)) (by rw [List.length_append, List.length_map]; simp; omega) ?_
    refine go_nx ?_
    show Go Γ _ _ (InvP _ _ _)
    rw [List.map_append, List.append_assoc]
    exact go_inv (.same (.same (.unk (.same (.same (.same (.same .nil)))))))
  have hlen := bndM_len (last := w.last) (w.many - 1).toNat
  refine go_forL (F1 := [(l, .own ((bndM w.last (w.many - 1).toNat).map e3))]) (js := [3, 4, 5, 6]) (ds := (w.ties ++ w.falls).map e4) (EvX.to (evx_op (by walk_at "evx") (by walk_at "evx") (rv_cat (by rw [List.length_map, List.length_map]; omega))) (by rw [List.map_append])) (fun i => [.dat (oW K w), .val (.ref l), .unk, .unk, .unk, .unk, .unk])
    (fun i => [(l, .own ((bndM w.last (w.many - 1).toNat ++ bndT ((w.ties ++ w.falls).take i)).map e3))]) (fun i => match ((w.ties ++ w.falls)[i]?).getD (0, 0, 0, 0) with | (t1, t2, t3, t4) => [.dat (oW K w), .val (.ref l), .unk, .dat (.int t1), .dat (.int t2), .dat (.int t3), .dat (.int t4)])
    (fun i x hx => ?_) (fun Kn => ?_) (fun i x hx Kn => ?_) ?_
  · rw [List.getElem?_map] at hx
    obtain ⟨⟨t1, t2, t3, t4⟩, ht, e⟩ := Option.map_eq_some_iff.mp hx
    subst e
    rw [ht]
    exact gog_tup4
  · rw [List.take_zero]
    show Go _ _ _ (InvP _ _ [(l, .own ((bndM w.last (w.many - 1).toNat ++ []).map e3))])
    rw [List.append_nil]
    exact go_inv (.same (.same (.unk (.same (.same (.same (.same .nil)))))))
  · rw [List.getElem?_map] at hx
    obtain ⟨⟨t1, t2, t3, t4⟩, ht, e⟩ := Option.map_eq_some_iff.mp hx
    subst e
    have hil := (List.getElem?_eq_some_iff.mp ht).1
    rw [List.length_append] at hil
    have hlen2 := bndT_len ((w.ties ++ w.falls).take i)
    have hlen3 : ((w.ties ++ w.falls).take i).length ≤ i := List.length_take_le _ _
    rw [ht, bndT_s ht]
    show Go { Γ with K := Kn } [.dat (oW K w), .val (.ref l), .unk, .dat (.int t1), .dat (.int t2), .dat (.int t3), .dat (.int t4)] _ _
    refine go_append1 (d := e3 (t1, t2, t4)) (evv_var rfl) (EvX.to (by walk_at "evx") (by rfl)) (by rw [List.length_map, List.length_append]; omega) ?_
    refine go_append1 (d := e3 (t2, t1, 0 - t3)) (evv_var rfl) (EvX.to (by walk_at "evx") (by rfl)) (by rw [List.length_append, List.length_map, List.length_append]; simp only [List.length_cons, List.length_nil]; omega) ?_
    refine go_nx ?_
    show Go { Γ with K := Kn } _ _ (InvP _ _ _)
    simp only [List.map_append, List.append_assoc]
    exact go_inv (.same (.same (.same (.unk (.unk (.unk (.unk .nil)))))))
  rw [List.length_map, List.take_length]
  exact go_freeze1 (i := 1) rfl (go_rt0 ret (evx_var rfl))

abbrev names_tight : List Str := ["web"]
theorem sc_tight : FnScope names_tight ["web"] (defScope (topS 11)) := ⟨rfl, rfl, rfl, by decide +kernel, rfl, by decide +kernel, by decide +kernel⟩
theorem ok_tight (T : Tx K mg) {f : Addr} {fd : FuncData} (F : FunD K "tight" "tight" (defArgs (topS 11)) (defBody (topS 11)) (defScope (topS 11)) [] [] f fd) (gm : mg "tight" = some (.ref f)) (c_Spans : Mak P w K mg base (L2.CX P w) 5 "Spans" (He.ga K "Spans") (spE (I_Spans___init__ K))) (c_Web_bounds : Met P w K mg base CX0 1 (He.ga K "Web") "bounds" (spD (I_Web_bounds K))) : Cal P w K mg base (L2.CX P w) 7 "tight" (spE (I_tight K)) := by
  have nd := sc_tight.nd
  have hcl_Spans := T.cl_Spans
  have hcl_Web := T.cl_Web
  have hna_Spans_many := T.na_Spans_many
  have hna_Spans_roads := T.na_Spans_roads
  have hna_Spans_table := T.na_Spans_table
  have hna_Web_falling := T.na_Web_falling
  have hna_Web_last := T.na_Web_last
  have hna_Web_many := T.na_Web_many
  have hna_Web_tied := T.na_Web_tied
  refine calE F gm sc_tight (F.bindsN fun _ _ _ _ _ _ us hl => match us, hl with | [_], _ => rfl) (fun _ _ _ _ hi => by cases hi <;> rfl) fun cdv A outer s H E hr tk => ⟨_, (pss_cons (ps_ret (k_fld (K := K) rfl (pe_mkX c_Spans hr (by decide) rfl tk (pa_cons (k_fld (K := K) rfl (pv 0)) (pa_cons (pe_mt0 c_Web_bounds hr (by decide) (pv 0)) pa_nil)))))
  pss_nil), ?_⟩
  rintro _ _ _ _ Γ Dn hI hS hn ret rex
  obtain ⟨w, h, rfl, rfl, rfl, hok, herr⟩ := tight_cases hI
  have hm1 := h.m1
  have hm8 := h.m8
  have hbl := bounds_len h
  have hbo := bounds_ok h
  have e : w.many = ((w.many.toNat : Nat) : Int) := by omega
  have hbo2 : ∀ b ∈ bounds w, BndOk ((w.many.toNat : Nat) : Int) b := fun b hb => by rw [← e]; exact hbo b hb
  show Go Γ [.dat (oW K w)] [] _
  have ha : EvA (tCons (tFld K (tVar 0) "many") (tCons (tMeth (cW K) "bounds" (spD (I_Web_bounds K)) [] E0 (tVar 0) tNil) tNil)) [.dat (oW K w)] [] [.dat (.int ((w.many.toNat : Nat) : Int)), .dat (.lst ((bounds w).map e3))] [] :=
    eva_dat (EvX.to (by walk_at "evx") (by rw [← e])) (eva_dat (evx_meth (evx_var rfl) (by decide +kernel) eva_nil (I_Web_bounds.mk w h)) eva_nil)
  cases q : tightR w with
  | ok s => exact go_rt0 (ret _ (hok s q)) (evx_fld (evx_makeE ha (fun x => I_Spans___init__.ok x _ _ s (by omega) (by omega) hbo2 (by omega) q) rfl) hcl_Spans hna_Spans_table rfl)
  | error z => exact go_retE (eve_fld (eve_make ha (fun x => I_Spans___init__.err x _ _ z (by omega) (by omega) hbo2 (by omega) q))) (gox_ret0 (rex _ _ _ (herr z q)))

abbrev names_Web_is_pair : List Str := ["self", "one", "other"]
theorem sc_Web_is_pair : FnScope names_Web_is_pair ["self", "one", "other"] (defScope (inClass (topS 8) 3)) := ⟨rfl, rfl, rfl, by decide +kernel, rfl, by decide +kernel, by decide +kernel⟩
theorem ok_Web_is_pair (T : Tx K mg) {f : Addr} {fd : FuncData} (F : FunD K "is_pair" "Web.is_pair" (defArgs (inClass (topS 8) 3)) (defBody (inClass (topS 8) 3)) (defScope (inClass (topS 8) 3)) [] [] f fd) (c : Cls K (He.ga K "Web")) (me : Meth K (He.ga K "Web") "is_pair" f)  : Met P w K mg base CX0 1 (He.ga K "Web") "is_pair" (spD (I_Web_is_pair K)) := by
  have nd := sc_Web_is_pair.nd
  have hcl_Spans := T.cl_Spans
  have hcl_Web := T.cl_Web
  have hna_Spans_many := T.na_Spans_many
  have hna_Spans_roads := T.na_Spans_roads
  have hna_Spans_table := T.na_Spans_table
  have hna_Web_falling := T.na_Web_falling
  have hna_Web_last := T.na_Web_last
  have hna_Web_many := T.na_Web_many
  have hna_Web_tied := T.na_Web_tied
  refine metI c me F sc_Web_is_pair (F.bindsN fun _ _ _ _ _ _ us hl => match us, hl with | [_, _, _], _ => rfl) (fun _ _ _ _ hi => by cases hi <;> rfl) fun cdv A outer s H E hr => ⟨_, (pss_cons (ps_ret (pe_and (pe_chain op_le op_lt pe_int (pv 1) (k_fld (K := K) rfl (pv 0))) (pe_and (pe_chain op_le op_lt pe_int (pv 2) (k_fld (K := K) rfl (pv 0))) (pe_one (pe_cmpR op_ne (pv 1) (pv 2) (nomark _))))))
  pss_nil), ?_⟩
  rintro _ _ _ _ Γ Dn ⟨x, w, a, b⟩ hS hn ret
  show Go Γ [.val (.ref x), .dat (.int a), .dat (.int b)] _ _
  refine go_rt0 ret (EvX.to (evx_andV (by walk_at "evx") fun _ => evx_andV (by walk_at "evx") fun _ => by walk_at "evx") (by rfl))

abbrev names_Web_need_tie : List Str := ["self", "at", "one", "other", "least", "most"]
theorem sc_Web_need_tie : FnScope names_Web_need_tie ["self", "at"] (defScope (inClass (topS 8) 1)) := ⟨rfl, rfl, rfl, by decide +kernel, rfl, by decide +kernel, by decide +kernel⟩
theorem ok_Web_need_tie (T : Tx K mg) {f : Addr} {fd : FuncData} (F : FunD K "need_tie" "Web.need_tie" (defArgs (inClass (topS 8) 1)) (defBody (inClass (topS 8) 1)) (defScope (inClass (topS 8) 1)) [] [] f fd) (c : Cls K (He.ga K "Web")) (me : Meth K (He.ga K "Web") "need_tie" f) (c_Web_is_pair : Met P w K mg base CX0 1 (He.ga K "Web") "is_pair" (spD (I_Web_is_pair K))) : Met P w K mg base CX0 2 (He.ga K "Web") "need_tie" (spD (I_Web_need_tie K)) := by
  have nd := sc_Web_need_tie.nd
  have hcl_Spans := T.cl_Spans
  have hcl_Web := T.cl_Web
  have hna_Spans_many := T.na_Spans_many
  have hna_Spans_roads := T.na_Spans_roads
  have hna_Spans_table := T.na_Spans_table
  have hna_Web_falling := T.na_Web_falling
  have hna_Web_last := T.na_Web_last
  have hna_Web_many := T.na_Web_many
  have hna_Web_tied := T.na_Web_tied
  refine metI c me F sc_Web_need_tie (F.bindsN fun _ _ _ _ _ _ us hl => match us, hl with | [_, _], _ => rfl) (fun _ _ _ _ hi => by cases hi <;> rfl) fun cdv A outer s H E hr => ⟨_, (pss_cons (ps_asg (pe_ix (k_ixL (K := K) rfl) (k_fld (K := K) rfl (pv 0)) (pv 1) (fun _ _ => rfl)) (k_pgt (K := K) (n := 4) rfl rfl (pgs_cons (pg_name (i := 2) nd rfl (by first | exact Or.inl rfl | exact Or.inr rfl)) (pgs_cons (pg_name (i := 3) nd rfl (by first | exact Or.inl rfl | exact Or.inr rfl)) (pgs_cons (pg_name (i := 4) nd rfl (by first | exact Or.inl rfl | exact Or.inr rfl)) (pgs_cons (pg_name (i := 5) nd rfl (by first | exact Or.inl rfl | exact Or.inr rfl)) pgs_nil))))))
  (pss_cons (ps_if (pt_not (pt_val (pe_mt c_Web_is_pair hr (by decide) (pv 0) (pa_cons (pv 2) (pa_cons (pv 3) pa_nil)))))
  (pss_cons ps_never
  pss_nil)
  pss_nil)
  (pss_cons (ps_if (PW.pt (pw_or (pt_cmpR op_gt (pv 4) (pv 5) (nomark _)) (pw_or (pt_cmpR op_lt (pv 4) (pe_op op_sub pe_int (pe_globI (by rfl) T.MOST_TIME_)) (nomark _)) (pw_or1 (pt_cmpR op_gt (pv 5) (pe_globI (by rfl) T.MOST_TIME_) (nomark _))))))
  (pss_cons ps_never
  pss_nil)
  pss_nil)
  pss_nil))), ?_⟩
  rintro _ _ _ _ Γ Dn ⟨x, w, i, h, hi⟩ hS hn ret
  obtain ⟨t, ht⟩ : ∃ t, w.ties[i]? = some t := ⟨_, List.getElem?_eq_getElem hi⟩
  have hok := h.t t (List.mem_of_getElem? ht)
  obtain ⟨t1, t2, t3, t4⟩ := t
  obtain ⟨hp, hle, hlo, hhi⟩ := hok
  dsimp only at hp hle hlo hhi
  show Go Γ [.val (.ref x), .dat (.int (i : Int)), .unk, .unk, .unk, .unk] [fW K x w] _
  refine go_asgG (d := e4 (t1, t2, t3, t4)) (F1 := [fW K x w]) (evx_op (by walk_at "evx") (evx_var rfl) (rv_ixL (atI_nat (by rw [List.getElem?_map, ht]; rfl)))) gog_tup4 ?_
  walk_at "nrm"
  refine go_ifN (evt_not (evt_B (evx_methO1 (R := []) (evv_var rfl) List.mem_cons_self (by decide +kernel) (by walk_at "eva") (by constructor)))) (by rw [isPair_ok hp]; rfl) ?_
  refine go_ifN (evt_or (by walk_at "evt") fun _ => evt_or (by walk_at "evt") fun _ => by walk_at "evt") (by simp; omega) ?_
  exact go_fin hn ret

abbrev names_Web_need_fall : List Str := ["self", "at", "one", "other", "least", "most", "ends", "fall"]
theorem sc_Web_need_fall : FnScope names_Web_need_fall ["self", "at"] (defScope (inClass (topS 8) 2)) := ⟨rfl, rfl, rfl, by decide +kernel, rfl, by decide +kernel, by decide +kernel⟩
theorem ok_Web_need_fall (T : Tx K mg) {f : Addr} {fd : FuncData} (F : FunD K "need_fall" "Web.need_fall" (defArgs (inClass (topS 8) 2)) (defBody (inClass (topS 8) 2)) (defScope (inClass (topS 8) 2)) [] [] f fd) (c : Cls K (He.ga K "Web")) (me : Meth K (He.ga K "Web") "need_fall" f) (c_Web_is_pair : Met P w K mg base CX0 1 (He.ga K "Web") "is_pair" (spD (I_Web_is_pair K))) : Met P w K mg base CX0 2 (He.ga K "Web") "need_fall" (spD (I_Web_need_fall K)) := by
  have nd := sc_Web_need_fall.nd
  have hcl_Spans := T.cl_Spans
  have hcl_Web := T.cl_Web
  have hna_Spans_many := T.na_Spans_many
  have hna_Spans_roads := T.na_Spans_roads
  have hna_Spans_table := T.na_Spans_table
  have hna_Web_falling := T.na_Web_falling
  have hna_Web_last := T.na_Web_last
  have hna_Web_many := T.na_Web_many
  have hna_Web_tied := T.na_Web_tied
  refine metI c me F sc_Web_need_fall (F.bindsN fun _ _ _ _ _ _ us hl => match us, hl with | [_, _], _ => rfl) (fun _ _ _ _ hi => by cases hi <;> rfl) fun cdv A outer s H E hr => ⟨_, (pss_cons (ps_asg (pe_ix (k_ixL (K := K) rfl) (k_fld (K := K) rfl (pv 0)) (pv 1) (fun _ _ => rfl)) (k_pgt (K := K) (n := 4) rfl rfl (pgs_cons (pg_name (i := 2) nd rfl (by first | exact Or.inl rfl | exact Or.inr rfl)) (pgs_cons (pg_name (i := 3) nd rfl (by first | exact Or.inl rfl | exact Or.inr rfl)) (pgs_cons (pg_name (i := 4) nd rfl (by first | exact Or.inl rfl | exact Or.inr rfl)) (pgs_cons (pg_name (i := 5) nd rfl (by first | exact Or.inl rfl | exact Or.inr rfl)) pgs_nil))))))
  (pss_cons (ps_setLc (i := 6) (own := [("fall", 7)]) rfl nd rfl rfl (sw_true rfl rfl rfl (by decide +kernel)) (k_pl (K := K) rfl (k_fld (K := K) rfl (pv 0))) (by refine blkOk_by (own := [("fall", 7)]) (N := names_Web_need_fall) (sc := defScope (inClass (topS 8) 2)) ?_; decide +kernel) (fun _ _ _ _ _ => (pg_name (i := 7) nd rfl (by first | exact Or.inl rfl | exact Or.inr rfl))) (fun _ _ _ _ _ => pts_nil) (fun _ _ _ _ _ => (pe_ix (k_ixT (K := K) rfl) (pv 7) pe_int (fun _ _ => rfl))))
  (pss_cons (ps_if (PW.pt (pw_or (pt_not (pt_val (pe_mt c_Web_is_pair hr (by decide) (pv 0) (pa_cons (pv 2) (pa_cons (pv 3) pa_nil))))) (pw_or (pt_cmpR op_eq (pv 3) pe_int (nomark _)) (pw_or (pt_cmpR (k_in (K := K) rfl) (pv 2) (pv 6) (by rfl)) (pw_or1 (pt_cmpR op_lt (k_bm (K := K) rfl PySem.F.plainAttrs_list PySem.F.slot_list_index PySem.F.type_list_index (k_index (K := K) rfl) (pv 6) (pa_cons (pv 3) pa_nil)) (pv 1) (nomark _)))))))
  (pss_cons ps_never
  pss_nil)
  pss_nil)
  (pss_cons (ps_if (PW.pt (pw_or (pt_cmpR op_lt (pv 4) pe_int (nomark _)) (pw_or (pt_cmpR op_gt (pv 4) (pv 5) (nomark _)) (pw_or1 (pt_cmpR op_gt (pv 5) (pe_globI (by rfl) T.MOST_TIME_) (nomark _))))))
  (pss_cons ps_never
  pss_nil)
  pss_nil)
  pss_nil)))), ?_⟩
  rintro _ _ _ _ Γ Dn ⟨x, w, i, h, hi⟩ hS hn ret
  obtain ⟨t, ht⟩ : ∃ t, w.falls[i]? = some t := ⟨_, List.getElem?_eq_getElem hi⟩
  have hok := h.f t (List.mem_of_getElem? ht)
  have hends : (ends w)[i]? = some t.2.1 := by unfold ends; rw [List.getElem?_map, ht]; rfl
  have hnd := h.nd
  have hfl := h.fl
  obtain ⟨t1, t2, t3, t4⟩ := t
  obtain ⟨hp, hnz, hone, hlo, hle, hhi⟩ := hok
  dsimp only at hp hnz hone hlo hle hhi hends
  show Go Γ [.val (.ref x), .dat (.int (i : Int)), .unk, .unk, .unk, .unk, .unk, .unk] [fW K x w] _
  refine go_asgG (d := e4 (t1, t2, t3, t4)) (F1 := [fW K x w]) (evx_op (by walk_at "evx") (evx_var rfl) (rv_ixL (atI_nat (by rw [List.getElem?_map, ht]; rfl)))) gog_tup4 ?_
  walk_at "nrm"
  refine go_asg (d := .lst ((ends w).map D.int)) (F1 := [fW K x w]) (EvX.to (EvN.x (evn_map (K := K) w.falls e4 (fun t => .int t.2.1) (fun t => [.val (.ref x), .dat (.int (i : Int)), .dat (.int t1), .dat (.int t2), .dat (.int t3), .dat (.int t4), .unk, .dat (e4 t)]) (by walk_at "evx") (by omega) (fun t => gog_name) (fun j hj => hj) (fun t _ => EvX.to (by walk_at "evx") (by rfl)))) (by unfold ends; rw [List.map_map]; rfl)) ?_
  walk_at "nrm"
  have hidx : ∀ m, m < i → (ends w)[m]? ≠ some t2 := fun m hm e => by
    have hm2 : m < (ends w).length := (List.getElem?_eq_some_iff.mp e).1
    have hi2 := (List.getElem?_eq_some_iff.mp hends).1
    have := List.pairwise_iff_getElem.mp hnd m i hm2 hi2 hm
    exact this ((List.getElem?_eq_some_iff.mp e).2.trans (List.getElem?_eq_some_iff.mp hends).2.symm)
  refine go_ifN (evt_or (evt_not (evt_B (evx_methO1 (R := []) (evv_var rfl) List.mem_cons_self (by decide +kernel) (by walk_at "eva") (by constructor)))) fun _ => evt_or (by walk_at "evt") fun _ => evt_or (evt_test (evx_op (evx_var rfl) (evx_var rfl) rv_in)) fun _ => evt_test (evx_op (evx_index (evx_var rfl) (evx_var rfl) hends hidx) (evx_var rfl) rv_B0)) (by rw [isPair_ok hp]; simp [hnz, hone]) ?_
  refine go_ifN (evt_or (by walk_at "evt") fun _ => evt_or (by walk_at "evt") fun _ => by walk_at "evt") (by simp; omega) ?_
  exact go_fin hn ret

abbrev names_Web___init__ : List Str := ["self", "many", "last", "ties", "falls", "at"]
theorem sc_Web___init__ : FnScope names_Web___init__ ["self", "many", "last", "ties", "falls"] (defScope (inClass (topS 8) 0)) := ⟨rfl, rfl, rfl, by decide +kernel, rfl, by decide +kernel, by decide +kernel⟩
theorem ok_Web___init__ (T : Tx K mg) {f : Addr} {fd : FuncData} (F : FunD K "__init__" "Web.__init__" (defArgs (inClass (topS 8) 0)) (defBody (inClass (topS 8) 0)) (defScope (inClass (topS 8) 0)) [] [] f fd) (M : Mk K (He.ga K "Web") f) (gm : mg "Web" = some (.ref (He.ga K "Web"))) (c_Web_need_tie : Met P w K mg base CX0 2 (He.ga K "Web") "need_tie" (spD (I_Web_need_tie K))) (c_Web_need_fall : Met P w K mg base CX0 2 (He.ga K "Web") "need_fall" (spD (I_Web_need_fall K))) : Mak P w K mg base CX0 3 "Web" (He.ga K "Web") (spD (I_Web___init__ K)) := by
  have nd := sc_Web___init__.nd
  have hcl_Spans := T.cl_Spans
  have hcl_Web := T.cl_Web
  have hna_Spans_many := T.na_Spans_many
  have hna_Spans_roads := T.na_Spans_roads
  have hna_Spans_table := T.na_Spans_table
  have hna_Web_falling := T.na_Web_falling
  have hna_Web_last := T.na_Web_last
  have hna_Web_many := T.na_Web_many
  have hna_Web_tied := T.na_Web_tied
  refine makI M F gm sc_Web___init__ (F.bindsN fun _ _ _ _ _ _ us hl => match us, hl with | [_, _, _, _, _], _ => rfl) (fun _ _ _ _ hi => by cases hi <;> rfl) fun cdv A outer s H E hr => ⟨_, (pss_cons (ps_if (PW.pt (pw_or (pt_cmpR op_lt (pv 1) pe_int (nomark _)) (pw_or1 (pt_cmpR op_gt (pv 1) (pe_globI (by rfl) T.MOST_MOMENTS_) (nomark _)))))
  (pss_cons ps_never
  pss_nil)
  pss_nil)
  (pss_cons (ps_if (PW.pt (pw_or (pt_cmpR op_lt (pv 2) pe_int (nomark _)) (pw_or1 (pt_cmpR op_gt (pv 2) (pe_globI (by rfl) T.MOST_TIME_) (nomark _)))))
  (pss_cons ps_never
  pss_nil)
  pss_nil)
  (pss_cons (k_sfld (K := K) rfl (pv 0) (pv 1))
  (pss_cons (k_sfld (K := K) rfl (pv 0) (pv 2))
  (pss_cons (k_sfld (K := K) rfl (pv 0) (pe_callTy (k_list (K := K) rfl) (by rfl) T.list_ (by decide +kernel) (pa_cons (pv 3) pa_nil)))
  (pss_cons (k_sfld (K := K) rfl (pv 0) (pe_callTy (k_list (K := K) rfl) (by rfl) T.list_ (by decide +kernel) (pa_cons (pv 4) pa_nil)))
  (pss_cons (ps_for PassesOwn.never rfl (pi_range1 (by rfl) T.range_ (pa_cons (pe_callB (k_len (K := K) rfl) (by rfl) T.len_ (by decide +kernel) (pa_cons (pv 3) pa_nil)) pa_nil)) (pg_name (i := 5) nd rfl (by first | exact Or.inl rfl | exact Or.inr rfl))
  (pss_cons (ps_expr (pe_mt c_Web_need_tie hr (by decide) (pv 0) (pa_cons (pv 5) pa_nil)))
  pss_nil))
  (pss_cons (ps_for PassesOwn.never rfl (pi_range1 (by rfl) T.range_ (pa_cons (pe_callB (k_len (K := K) rfl) (by rfl) T.len_ (by decide +kernel) (pa_cons (pv 4) pa_nil)) pa_nil)) (pg_name (i := 5) nd rfl (by first | exact Or.inl rfl | exact Or.inr rfl))
  (pss_cons (ps_expr (pe_mt c_Web_need_fall hr (by decide) (pv 0) (pa_cons (pv 5) pa_nil)))
  pss_nil))
  pss_nil)))))))), ?_⟩
  rintro _ _ _ _ Γ Dn ⟨x, w, h⟩ hS hn ret
  have hm1 := h.m1
  have hm8 := h.m8
  have hl1 := h.l1
  have hl60 := h.l60
  have htl := h.tl
  have hfl := h.fl
  show Go Γ [.val (.ref x), .dat (.int w.many), .dat (.int w.last), .dat (.lst (w.ties.map e4)), .dat (.lst (w.falls.map e4)), .unk] [(x, .obj (cW K) [] [])] _
  refine go_ifN (evt_or (by walk_at "evt") fun _ => by walk_at "evt") (by simp; omega) ?_
  refine go_ifN (evt_or (by walk_at "evt") fun _ => by walk_at "evt") (by simp; omega) ?_
  refine go_sfld (F1 := [(x, .obj (cW K) [] [])]) (by walk_at "evx") (evv_var rfl) List.mem_cons_self (by assumption) (by assumption) (by simp) ?_
  rw [chg_eq, chg_nil]
  show Go Γ _ [(x, .obj (cW K) ["many"] [.dat (.int w.many)])] _
  refine go_sfld (F1 := [(x, .obj (cW K) ["many"] [.dat (.int w.many)])]) (by walk_at "evx") (evv_var rfl) List.mem_cons_self (by assumption) (by assumption) (by simp) ?_
  rw [chg_eq, chg_nil]
  show Go Γ _ [(x, .obj (cW K) ["many", "last"] [.dat (.int w.many), .dat (.int w.last)])] _
  refine go_sfld (F1 := [(x, .obj (cW K) ["many", "last"] [.dat (.int w.many), .dat (.int w.last)])]) (by walk_at "evx") (evv_var rfl) List.mem_cons_self (by assumption) (by assumption) (by simp) ?_
  rw [chg_eq, chg_nil]
  show Go Γ _ [(x, .obj (cW K) ["many", "last", "tied"] [.dat (.int w.many), .dat (.int w.last), .dat (.lst (w.ties.map e4))])] _
  refine go_sfld (F1 := [(x, .obj (cW K) ["many", "last", "tied"] [.dat (.int w.many), .dat (.int w.last), .dat (.lst (w.ties.map e4))])]) (by walk_at "evx") (evv_var rfl) List.mem_cons_self (by assumption) (by assumption) (by simp) ?_
  rw [chg_eq, chg_nil]
  show Go Γ _ [fW K x w] _
  refine go_forR1 (F1 := [fW K x w]) (n := ((w.ties.map e4).length : Int)) (by walk_at "eva") (by rw [List.length_map]; omega) (fun i => [.val (.ref x), .dat (.int w.many), .dat (.int w.last), .dat (.lst (w.ties.map e4)), .dat (.lst (w.falls.map e4)), .unk]) (fun i => [fW K x w]) (go_inv (.rfl' _)) (fun i hi => ?_) ?_
  · rw [List.length_map] at hi
    walk_at "nrm"
    refine go_drop (d := .non) (F1 := [fW K x w]) (evx_methO1 (R := []) (evv_var rfl) List.mem_cons_self (by decide +kernel) (by walk_at "eva") (.mk x w i h (by omega))) ?_
    exact go_nx (go_inv (.same (.same (.same (.same (.same (.unk .nil)))))))
  refine go_forR1 (F1 := [fW K x w]) (n := ((w.falls.map e4).length : Int)) (by walk_at "eva") (by rw [List.length_map]; omega) (fun i => [.val (.ref x), .dat (.int w.many), .dat (.int w.last), .dat (.lst (w.ties.map e4)), .dat (.lst (w.falls.map e4)), .unk]) (fun i => [fW K x w]) (go_inv (.rfl' _)) (fun i hi => ?_) ?_
  · rw [List.length_map] at hi
    walk_at "nrm"
    refine go_drop (d := .non) (F1 := [fW K x w]) (evx_methO1 (R := []) (evv_var rfl) List.mem_cons_self (by decide +kernel) (by walk_at "eva") (.mk x w i h (by omega))) ?_
    exact go_nx (go_inv (.same (.same (.same (.same (.same (.unk .nil)))))))
  exact go_fin hn ret

abbrev names__law_whole : List Str := ["_law_found"]
theorem sc__law_whole : FnScope names__law_whole ["_law_found"] (defScope (topS 14)) := ⟨rfl, rfl, rfl, by decide +kernel, rfl, by decide +kernel, by decide +kernel⟩
theorem ok__law_whole (T : Tx K mg) {f : Addr} {fd : FuncData} (F : FunD K "_law_whole" "_law_whole" (defArgs (topS 14)) (defBody (topS 14)) (defScope (topS 14)) [] [] f fd) (gm : mg "_law_whole" = some (.ref f))  : Cal P w K mg base CX0 1 "_law_whole" (spD (I__law_whole K)) := by
  have nd := sc__law_whole.nd
  have hcl_Spans := T.cl_Spans
  have hcl_Web := T.cl_Web
  have hna_Spans_many := T.na_Spans_many
  have hna_Spans_roads := T.na_Spans_roads
  have hna_Spans_table := T.na_Spans_table
  have hna_Web_falling := T.na_Web_falling
  have hna_Web_last := T.na_Web_last
  have hna_Web_many := T.na_Web_many
  have hna_Web_tied := T.na_Web_tied
  refine calI F gm sc__law_whole (F.bindsN fun _ _ _ _ _ _ us hl => match us, hl with | [_], _ => rfl) (fun _ _ _ _ hi => by cases hi <;> rfl) fun cdv A outer s H E hr => ⟨_, (pss_cons (ps_ret (pe_and (pe_callB (k_isi (K := K) rfl) (by rfl) T.isinstance_ (by decide +kernel) (pa_cons (pv 0) (pa_cons (pe_bltn (v := .ty "int") (by rfl) T.int_ (by decide +kernel) rfl) pa_nil))) (pe_one (pe_not (pe_callB (k_isi (K := K) rfl) (by rfl) T.isinstance_ (by decide +kernel) (pa_cons (pv 0) (pa_cons (pe_bltn (v := .ty "bool") (by rfl) T.bool_ (by decide +kernel) rfl) pa_nil)))))))
  pss_nil), ?_⟩
  rintro _ _ _ _ Γ Dn ⟨n⟩ hS hn ret
  show Go Γ [.dat (.int n)] [] _
  exact go_rt0 ret (EvX.to (evx_andV (evx_cb (eva_dat (evx_var rfl) (eva_val evv_c eva_nil)) rc_isiI) fun _ => evx_notV (evx_cb (eva_dat (evx_var rfl) (eva_val evv_c eva_nil)) rc_isiB)) (by rfl))

abbrev names__law_bounds : List Str := ["_law_w", "_law_bounds_here", "_law_moment", "_law_one", "_law_other", "_law_least", "_law_most"]
theorem sc__law_bounds : FnScope names__law_bounds ["_law_w"] (defScope (topS 19)) := ⟨rfl, rfl, rfl, by decide +kernel, rfl, by decide +kernel, by decide +kernel⟩
theorem ok__law_bounds (T : Tx K mg) {f : Addr} {fd : FuncData} (F : FunD K "_law_bounds" "_law_bounds" (defArgs (topS 19)) (defBody (topS 19)) (defScope (topS 19)) [] [] f fd) (gm : mg "_law_bounds" = some (.ref f))  : Cal P w K mg base CX0 1 "_law_bounds" (spD (I__law_bounds K)) := by
  have nd := sc__law_bounds.nd
  have hcl_Spans := T.cl_Spans
  have hcl_Web := T.cl_Web
  have hna_Spans_many := T.na_Spans_many
  have hna_Spans_roads := T.na_Spans_roads
  have hna_Spans_table := T.na_Spans_table
  have hna_Web_falling := T.na_Web_falling
  have hna_Web_last := T.na_Web_last
  have hna_Web_many := T.na_Web_many
  have hna_Web_tied := T.na_Web_tied
  refine calI F gm sc__law_bounds (F.bindsN fun _ _ _ _ _ _ us hl => match us, hl with | [_], _ => rfl) (fun _ _ _ _ hi => by cases hi <;> rfl) fun cdv A outer s H E hr => ⟨_, (pss_cons (ps_set (i := 1) nd rfl (Or.inl rfl) (pe_lst pa_nil))
  (pss_cons (ps_for PassesOwn.never rfl (pi_range2 (by rfl) T.range_ (pa_cons pe_int (pa_cons (pe_ix (k_ixT (K := K) rfl) (pv 0) pe_int (fun _ _ => rfl)) pa_nil))) (pg_name (i := 2) nd rfl (by first | exact Or.inl rfl | exact Or.inr rfl))
  (pss_cons (ps_set (i := 1) nd rfl (Or.inl rfl) (pe_op op_cat (pv 1) (pe_lst (pa_cons (pe_tup (pa_cons pe_int (pa_cons (pv 2) (pa_cons (pe_ix (k_ixT (K := K) rfl) (pv 0) pe_int (fun _ _ => rfl)) pa_nil)))) (pa_cons (pe_tup (pa_cons (pv 2) (pa_cons pe_int (pa_cons pe_int pa_nil)))) pa_nil)))))
  pss_nil))
  (pss_cons (ps_for PassesOwn.never rfl (k_pl (K := K) rfl (pe_op op_cat (pe_ix (k_ixT (K := K) rfl) (pv 0) pe_int (fun _ _ => rfl)) (pe_ix (k_ixT (K := K) rfl) (pv 0) pe_int (fun _ _ => rfl)))) (k_pgt (K := K) (n := 4) rfl rfl (pgs_cons (pg_name (i := 3) nd rfl (by first | exact Or.inl rfl | exact Or.inr rfl)) (pgs_cons (pg_name (i := 4) nd rfl (by first | exact Or.inl rfl | exact Or.inr rfl)) (pgs_cons (pg_name (i := 5) nd rfl (by first | exact Or.inl rfl | exact Or.inr rfl)) (pgs_cons (pg_name (i := 6) nd rfl (by first | exact Or.inl rfl | exact Or.inr rfl)) pgs_nil)))))
  (pss_cons (ps_set (i := 1) nd rfl (Or.inl rfl) (pe_op op_cat (pv 1) (pe_lst (pa_cons (pe_tup (pa_cons (pv 3) (pa_cons (pv 4) (pa_cons (pv 6) pa_nil)))) (pa_cons (pe_tup (pa_cons (pv 4) (pa_cons (pv 3) (pa_cons (pe_op op_sub pe_int (pv 5)) pa_nil)))) pa_nil)))))
  pss_nil))
  (pss_cons (ps_ret (pv 1))
  pss_nil)))), ?_⟩
  rintro _ _ _ _ Γ Dn ⟨w, h⟩ hS hn ret
  have hm1 := h.m1
  have hm8 := h.m8
  have htl := h.tl
  have hfl := h.fl
  show Go Γ [.dat (eW w), .unk, .unk, .unk, .unk, .unk, .unk] [] _
  refine go_asg (d := .lst []) (by walk_at "evx") ?_
  walk_at "nrm"
  refine go_forR2 (lo := 1) (n := w.many) (F1 := []) (by walk_at "eva") (by omega) (fun i => [.dat (eW w), .dat (.lst ((bndM w.last i).map e3)), .unk, .unk, .unk, .unk, .unk]) (fun i => []) (go_inv (.rfl' _)) (fun i hi => ?_) ?_
  · have hlen := bndM_len (last := w.last) i
    have e1 : (1 : Int) + (i : Int) = ((i + 1 : Nat) : Int) := by omega
    rw [e1]
    walk_at "nrm"
    refine go_asg (d := .lst ((bndM w.last (i + 1)).map e3)) (EvX.to (evx_op (evx_var rfl) (by walk_at "evx") (rv_cat (by rw [List.length_map]; simp only [List.length_cons, List.length_nil]; omega))) (by rw [bndM_s, List.map_append]; rfl)) ?_
    exact go_nx (go_inv (.same (.same (.unk (.same (.same (.same (.same .nil))))))))
  have hlen := bndM_len (last := w.last) (w.many - 1).toNat
  refine go_forL (F1 := []) (js := [3, 4, 5, 6]) (ds := (w.ties ++ w.falls).map e4) (EvX.to (evx_op (by walk_at "evx") (by walk_at "evx") (rv_cat (by rw [List.length_map, List.length_map]; omega))) (by rw [List.map_append])) (fun i => [.dat (eW w), .dat (.lst ((bndM w.last (w.many - 1).toNat ++ bndT ((w.ties ++ w.falls).take i)).map e3)), .unk, .unk, .unk, .unk, .unk])
    (fun i => []) (fun i => match ((w.ties ++ w.falls)[i]?).getD (0, 0, 0, 0) with | (t1, t2, t3, t4) => [.dat (eW w), .dat (.lst ((bndM w.last (w.many - 1).toNat ++ bndT ((w.ties ++ w.falls).take i)).map e3)), .unk, .dat (.int t1), .dat (.int t2), .dat (.int t3), .dat (.int t4)])
    (fun i x hx => ?_) (fun Kn => ?_) (fun i x hx Kn => ?_) ?_
  · rw [List.getElem?_map] at hx
    obtain ⟨⟨t1, t2, t3, t4⟩, ht, e⟩ := Option.map_eq_some_iff.mp hx
    subst e
    rw [ht]
    exact gog_tup4
  · rw [List.take_zero]
    show Go _ _ _ (InvP _ [.dat (eW w), .dat (.lst ((bndM w.last (w.many - 1).toNat ++ []).map e3)), .unk, .unk, .unk, .unk, .unk] _)
    rw [List.append_nil]
    exact go_inv (.same (.same (.unk (.same (.same (.same (.same .nil)))))))
  · rw [List.getElem?_map] at hx
    obtain ⟨⟨t1, t2, t3, t4⟩, ht, e⟩ := Option.map_eq_some_iff.mp hx
    subst e
    have hil := (List.getElem?_eq_some_iff.mp ht).1
    rw [List.length_append] at hil
    have hlen2 := bndT_len ((w.ties ++ w.falls).take i)
    have hlen3 : ((w.ties ++ w.falls).take i).length ≤ i := List.length_take_le _ _
    rw [ht, bndT_s ht]
    show Go { Γ with K := Kn } [.dat (eW w), .dat (.lst ((bndM w.last (w.many - 1).toNat ++ bndT ((w.ties ++ w.falls).take i)).map e3)), .unk, .dat (.int t1), .dat (.int t2), .dat (.int t3), .dat (.int t4)] _ _
    refine go_asg (d := .lst ((bndM w.last (w.many - 1).toNat ++ (bndT ((w.ties ++ w.falls).take i) ++ [(t1, t2, t4), (t2, t1, 0 - t3)])).map e3)) (EvX.to (evx_op (evx_var rfl) (by walk_at "evx") (rv_cat (by rw [List.length_map, List.length_append]; simp only [List.length_cons, List.length_nil]; omega))) (by simp only [List.map_append, List.append_assoc]; rfl)) ?_
    exact go_nx (go_inv (.same (.same (.same (.unk (.unk (.unk (.unk .nil))))))))
  rw [List.length_map, List.take_length]
  exact go_rt0 ret (evx_var rfl)

abbrev names__law_keeps : List Str := ["_law_w", "_law_times", "_law_one", "_law_other", "_law_most"]
theorem sc__law_keeps : FnScope names__law_keeps ["_law_w", "_law_times"] (defScope (topS 20)) := ⟨rfl, rfl, rfl, by decide +kernel, rfl, by decide +kernel, by decide +kernel⟩
theorem ok__law_keeps (T : Tx K mg) {f : Addr} {fd : FuncData} (F : FunD K "_law_keeps" "_law_keeps" (defArgs (topS 20)) (defBody (topS 20)) (defScope (topS 20)) [] [] f fd) (gm : mg "_law_keeps" = some (.ref f)) (c__law_bounds : Cal P w K mg base CX0 1 "_law_bounds" (spD (I__law_bounds K))) : Cal P w K mg base CX0 2 "_law_keeps" (spD (I__law_keeps K)) := by
  have nd := sc__law_keeps.nd
  have hcl_Spans := T.cl_Spans
  have hcl_Web := T.cl_Web
  have hna_Spans_many := T.na_Spans_many
  have hna_Spans_roads := T.na_Spans_roads
  have hna_Spans_table := T.na_Spans_table
  have hna_Web_falling := T.na_Web_falling
  have hna_Web_last := T.na_Web_last
  have hna_Web_many := T.na_Web_many
  have hna_Web_tied := T.na_Web_tied
  refine calI F gm sc__law_keeps (F.bindsN fun _ _ _ _ _ _ us hl => match us, hl with | [_, _], _ => rfl) (fun _ _ _ _ hi => by cases hi <;> rfl) fun cdv A outer s H E hr => ⟨_, (pss_cons (ps_if (pt_cmpR op_ne (pe_ix (k_ixL (K := K) rfl) (pv 1) pe_int (fun _ _ => rfl)) pe_int (nomark _))
  (pss_cons (ps_ret pe_bl)
  pss_nil)
  pss_nil)
  (pss_cons (ps_ret (pe_cmpR (k_eqD (K := K) rfl hr.units) (pe_lc (own := [("_law_one", 2), ("_law_other", 3), ("_law_most", 4)]) rfl nd (k_pl (K := K) rfl (pe_c c__law_bounds hr (by decide) rfl (pa_cons (pv 0) pa_nil))) (by refine blkOk_by (own := [("_law_one", 2), ("_law_other", 3), ("_law_most", 4)]) (N := names__law_keeps) (sc := defScope (topS 20)) ?_; decide +kernel) (fun _ _ _ _ _ => (k_pgt (K := K) (n := 3) rfl rfl (pgs_cons (pg_name (i := 2) nd rfl (by first | exact Or.inl rfl | exact Or.inr rfl)) (pgs_cons (pg_name (i := 3) nd rfl (by first | exact Or.inl rfl | exact Or.inr rfl)) (pgs_cons (pg_name (i := 4) nd rfl (by first | exact Or.inl rfl | exact Or.inr rfl)) pgs_nil))))) (fun _ _ _ _ _ => (pts_one (pt_cmpR op_gt (pe_op op_sub (pe_ix (k_ixL (K := K) rfl) (pv 1) (pv 3) (fun _ _ => rfl)) (pe_ix (k_ixL (K := K) rfl) (pv 1) (pv 2) (fun _ _ => rfl))) (pv 4) (nomark _)))) (fun _ _ _ _ _ => pe_int)) (pe_lst pa_nil) (nomark _)))
  pss_nil)), ?_⟩
  rintro _ _ _ _ Γ Dn ⟨w, h, ts, hl⟩ hS hn ret
  have hm1 := h.m1
  have hbl := bounds_len h
  have hbo := bounds_ok h
  show Go Γ [.dat (eW w), .dat (.lst (ts.map D.int)), .unk, .unk, .unk] [] _
  refine go_ifP (p := ¬ ts.getD 0 0 = 0) (F1 := []) (EvT.to (evt_test (evx_op (evx_op (evx_var rfl) evx_int (rv_ixL (atI_ints (by omega) (by omega)))) evx_int rv_ne_int)) (by simp)) (fun c => ?_) (fun c => ?_)
  · exact go_rt0 ret (EvX.to (by walk_at "evx") (by rw [decide_eq_false c]; rfl))
  · refine go_nx ?_
    have c0 : ts.getD 0 0 = 0 := Decidable.not_not.mp c
    rw [decide_eq_true c0, Bool.true_and, ← keepsB_filter] at ret
    dsimp only
    refine go_rt0 ret (evx_op (d1 := .lst ((((bounds w).filter fun b => decide (ts.getD b.2.1.toNat 0 - ts.getD b.1.toNat 0 > b.2.2)).map fun _ => (1 : Int)).map D.int)) ?_ (evx_lst eva_nil rfl (by simp)) rv_eqNil)
    refine EvX.to (EvN.x (evn_filt (K := K) (bounds w) e3 (fun _ => .int 1) (fun b => decide (ts.getD b.2.1.toNat 0 - ts.getD b.1.toNat 0 > b.2.2)) (fun t => [.dat (eW w), .dat (.lst (ts.map D.int)), .dat (.int t.1), .dat (.int t.2.1), .dat (.int t.2.2)]) ?_ (by omega) (fun t => gog_tup3) (fun j hj => hj) (fun t ht => ?_) (fun t _ _ => by walk_at "evx"))) (by rw [List.map_map]; rfl)
    · exact evx_call0 (by walk_at "eva") (.mk w h)
    · have hb := hbo t ht
      obtain ⟨b1, b2, b3, b4, _, _⟩ := hb
      exact evt_test (evx_op (evx_op (evx_op (evx_var rfl) (evx_var rfl) (rv_ixL (atI_ints (by omega) (by omega)))) (evx_op (evx_var rfl) (evx_var rfl) (rv_ixL (atI_ints (by omega) (by omega)))) rv_I0) (evx_var rfl) rv_B0)

abbrev names_law : List Str := ["_law_script", "_law_d", "_law_w", "_law_table", "_law_one", "_law_other", "_law_times", "_law_k", "_law_time"]
theorem sc_law : FnScope names_law ["_law_script"] (defScope (topS 21)) := ⟨rfl, rfl, rfl, by decide +kernel, rfl, by decide +kernel, by decide +kernel⟩
theorem ok_law (T : Tx K mg) {f : Addr} {fd : FuncData} (F : FunD K "law" "law" (defArgs (topS 21)) (defBody (topS 21)) (defScope (topS 21)) [] [] f fd) (c__law_web : Cal P w K mg base CX0 3 "_law_web" (spD (I__law_web K))) (c_tight : Cal P w K mg base (L2.CX P w) 7 "tight" (spE (I_tight K))) (c_Web : Mak P w K mg base CX0 3 "Web" (He.ga K "Web") (spD (I_Web___init__ K))) (c__law_next : Cal P w K mg base CX0 1 "_law_next" (spNext K)) (c__law_whole : Cal P w K mg base CX0 1 "_law_whole" (spD (I__law_whole K))) (c__law_keeps : Cal P w K mg base CX0 2 "_law_keeps" (spD (I__law_keeps K))) : FnOk P w K mg base CX0 8 f fd ["_law_script"] (spLaw K) := by
  have nd := sc_law.nd
  have hcl_Spans := T.cl_Spans
  have hcl_Web := T.cl_Web
  have hna_Spans_many := T.na_Spans_many
  have hna_Spans_roads := T.na_Spans_roads
  have hna_Spans_table := T.na_Spans_table
  have hna_Web_falling := T.na_Web_falling
  have hna_Web_last := T.na_Web_last
  have hna_Web_many := T.na_Web_many
  have hna_Web_tied := T.na_Web_tied
  refine F.ok sc_law ?len (fun cdv A outer s H vs Q E hr h => ?body)
  case len => rintro vs H Q E ⟨a, ns, rfl, _⟩; rfl
  case body =>
    refine ⟨_, PSs.nox (pss_cons (ps_set (i := 1) nd rfl (Or.inl rfl) (pe_lst (pa_cons (pv 0) (pa_cons pe_int pa_nil))))
  (pss_cons (ps_set (i := 2) nd rfl (Or.inl rfl) (pe_c c__law_web hr (by decide) rfl (pa_cons (pv 1) (pa_cons pe_int (pa_cons pe_int (pa_cons pe_int pa_nil))))))
  (pss_cons (ps_try_only rfl rfl ⟨by rfl, by decide, .inl T.gm_NoTimes⟩ takes0 (fun W pn xe tk hp => (pss_cons (ps_set (i := 3) nd rfl (Or.inr rfl) (pe_cX c_tight hr (by decide) rfl tk (pa_cons (pe_mk c_Web hr (by decide) rfl (pa_cons (pe_ix (k_ixT (K := K) rfl) (pv 2) pe_int (fun _ _ => rfl)) (pa_cons (pe_ix (k_ixT (K := K) rfl) (pv 2) pe_int (fun _ _ => rfl)) (pa_cons (pe_ix (k_ixT (K := K) rfl) (pv 2) pe_int (fun _ _ => rfl)) (pa_cons (pe_ix (k_ixT (K := K) rfl) (pv 2) pe_int (fun _ _ => rfl)) pa_nil))))) pa_nil)))
  pss_nil))
  (fun xa oe cls xd pn hz hf => (pss_cons (ps_ret pe_bl)
  pss_nil)))
  (pss_cons (ps_set (i := 4) nd rfl (Or.inr rfl) (pe_c c__law_next hr (by decide) rfl (pa_cons (pv 1) (pa_cons (pe_ix (k_ixT (K := K) rfl) (pv 2) pe_int (fun _ _ => rfl)) pa_nil))))
  (pss_cons (ps_set (i := 5) nd rfl (Or.inl rfl) (pe_c c__law_next hr (by decide) rfl (pa_cons (pv 1) (pa_cons (pe_ix (k_ixT (K := K) rfl) (pv 2) pe_int (fun _ _ => rfl)) pa_nil))))
  (pss_cons (ps_setLc (i := 6) (own := [("_law_k", 7)]) rfl nd rfl rfl (sw_true rfl rfl rfl (by decide +kernel)) (pi_range1 (by rfl) T.range_ (pa_cons (pe_ix (k_ixT (K := K) rfl) (pv 2) pe_int (fun _ _ => rfl)) pa_nil)) (by refine blkOk_by (own := [("_law_k", 7)]) (N := names_law) (sc := defScope (topS 21)) ?_; decide +kernel) (fun _ _ _ _ _ => (pg_name (i := 7) nd rfl (by first | exact Or.inl rfl | exact Or.inr rfl))) (fun _ _ _ _ _ => pts_nil) (fun _ _ _ _ _ => (pe_op op_sub (pe_ix (k_ixL (K := K) rfl) (pe_ix (k_ixL (K := K) rfl) (pv 3) (pv 4) (fun _ _ => rfl)) (pv 7) (fun _ _ => rfl)) (pe_ix (k_ixL (K := K) rfl) (pe_ix (k_ixL (K := K) rfl) (pv 3) (pv 4) (fun _ _ => rfl)) pe_int (fun _ _ => rfl)))))
  (pss_cons (ps_if (PW.pt (pw_or (pt_cmpR (k_neD (K := K) rfl hr.units) (pe_lc (own := [("_law_time", 8)]) rfl nd (k_pl (K := K) rfl (pv 6)) (by refine blkOk_by (own := [("_law_time", 8)]) (N := names_law) (sc := defScope (topS 21)) ?_; decide +kernel) (fun _ _ _ _ _ => (pg_name (i := 8) nd rfl (by first | exact Or.inl rfl | exact Or.inr rfl))) (fun _ _ _ _ _ => (pts_one (pt_not (pt_val (pe_c c__law_whole hr (by decide) rfl (pa_cons (pv 8) pa_nil)))))) (fun _ _ _ _ _ => (pv 8))) (pe_lst pa_nil) (nomark _)) (pw_or1 (pt_not (pt_val (pe_c c__law_keeps hr (by decide) rfl (pa_cons (pv 2) (pa_cons (pv 6) pa_nil))))))))
  (pss_cons (ps_ret pe_bl)
  pss_nil)
  pss_nil)
  (pss_cons (ps_ret (pe_cmpR op_eq (pe_op op_sub (pe_ix (k_ixL (K := K) rfl) (pv 6) (pv 5) (fun _ _ => rfl)) (pe_ix (k_ixL (K := K) rfl) (pv 6) (pv 4) (fun _ _ => rfl))) (pe_ix (k_ixL (K := K) rfl) (pe_ix (k_ixL (K := K) rfl) (pv 3) (pv 4) (fun _ _ => rfl)) (pv 5) (fun _ _ => rfl)) (nomark _)))
  pss_nil)))))))), ?_⟩
    obtain ⟨sa, ns, rfl, hlen, hsq, hQ⟩ := h
    refine enterLaw (K := K) (ns := ns) (by decide) hsq hQ fun Γ hG Dn ret => ?_
    show Go Γ [.val (.ref sa), .unk, .unk, .unk, .unk, .unk, .unk, .unk, .unk] [] _
    refine go_dice rfl hG fun d => ?_
    show Go Γ [.val (.ref sa), .val (.ref d), .unk, .unk, .unk, .unk, .unk, .unk, .unk] [(d, .dice K sa ns 0)] _
    have hw := web_ok (ns := ns) (k := 0) (most := 8) (last := 20) (wide := 8) (by omega) (by omega) (by omega) (by omega) (by omega) (by omega)
    have hwk := lawWeb_k (ns := ns) (k := 0) (most := 8) (last := 20) (wide := 8) (by omega) (by omega)
    refine go_asg (d := eW (lawWeb ns 0 8 20 8).1) (F1 := [(d, .dice K sa ns (lawWeb ns 0 8 20 8).2)]) (evx_call1 (R := []) (by walk_at "eva") (I__law_web.mk d sa ns 0 8 20 8 hlen (by omega) (by omega) (by omega) (by omega) (by omega) (by omega) (by omega))) ?_
    walk_at "nrm"
    generalize (lawWeb ns 0 8 20 8).1 = wb at hw ⊢
    generalize (lawWeb ns 0 8 20 8).2 = kd at hwk ⊢
    have hm1 := hw.m1
    have hm8 := hw.m8
    have em : wb.many = ((wb.many.toNat : Nat) : Int) := by omega
    have hmk : EvX (tMake (cW K) (spD (I_Web___init__ K)) [] E0 (tCons (tOp (rIxT K) (tVar 2) (tC (.int 0))) (tCons (tOp (rIxT K) (tVar 2) (tC (.int 1))) (tCons (tOp (rIxT K) (tVar 2) (tC (.int 2))) (tCons (tOp (rIxT K) (tVar 2) (tC (.int 3))) tNil))))) [.val (.ref sa), .val (.ref d), .dat (eW wb), .unk, .unk, .unk, .unk, .unk, .unk] [(d, .dice K sa ns kd)] (oW K wb) [(d, .dice K sa ns kd)] :=
      evx_make0 (by walk_at "eva") (fun x => I_Web___init__.mk x wb hw) rfl
    cases q : tightR wb with
    | error z =>
      refine go_first ?_
      dsimp only
      exact go_asgE (eve_callE0 (eva_dat hmk eva_nil) (I_tight.err wb z hw q)) (gox_only T.xm_NoTimes (fun a dx => go_rt (F' := []) ret evx_bl))
    | ok s1 =>
      have tok := tight_ok hw q
      have hdim := tok.inv
      refine go_first ?_
      dsimp only
      refine go_asg (evx_callE0 (eva_dat hmk eva_nil) (I_tight.ok wb s1 hw q)) (go_nx ?_)
      show Go Γ [.val (.ref sa), .val (.ref d), .dat (eW wb), .dat (tabD s1), .unk, .unk, .unk, .unk, .unk] [(d, .dice K sa ns kd)] _
      have h1 := nxt_range (ns := ns) (k := kd) (m := wb.many) (by omega)
      have h2 := nxt_range (ns := ns) (k := kd + 1) (m := wb.many) (by omega)
      refine go_asg (d := .int (nxt ns kd wb.many)) (F1 := [(d, .dice K sa ns (kd + 1))]) (evx_next (R := []) hlen (eva_val (evv_var rfl) (eva_dat (evx_op (evx_var rfl) evx_int (rv_ixT rfl)) eva_nil)) (by omega) (by omega)) ?_
      walk_at "nrm"
      refine go_asg (d := .int (nxt ns (kd + 1) wb.many)) (F1 := [(d, .dice K sa ns (kd + 2))]) (evx_next (R := []) hlen (eva_val (evv_var rfl) (eva_dat (evx_op (evx_var rfl) evx_int (rv_ixT rfl)) eva_nil)) (by omega) (by omega)) ?_
      walk_at "nrm"
      generalize nxt ns kd wb.many = one at h1 ⊢
      generalize nxt ns (kd + 1) wb.many = other at h2 ⊢
      have tat : ∀ i j : Int, 0 ≤ i → i < wb.many → 0 ≤ j → j < wb.many → ∃ r : List D, atI ((s1.T.map (·.map optD)).map D.lst) i = some (.lst r) ∧ atI r j = some (.int ((tAt s1.T i.toNat j.toNat).getD 0)) := fun i j a b c d => by
        obtain ⟨i, rfl⟩ : ∃ k : Nat, i = (k : Int) := ⟨i.toNat, by omega⟩
        obtain ⟨j, rfl⟩ : ∃ k : Nat, j = (k : Int) := ⟨j.toNat, by omega⟩
        obtain ⟨r, r1, r2, r3⟩ := row_at (d := none) (f := optD) hdim (i := i) (j := j) (by omega) (by omega)
        obtain ⟨v, hv⟩ := tok.tot i j (by omega) (by omega)
        have hv2 : atM none s1.T i j = some v := hv
        rw [Int.toNat_natCast, Int.toNat_natCast]
        exact ⟨r, atI_nat (by rw [List.getElem?_map, r1]; rfl), atI_nat (by rw [r3, hv2, hv]; rfl)⟩
      have tev : ∀ (es : List En) (F : Fs) (i j : Int) (ti tj : TE), 0 ≤ i → i < wb.many → 0 ≤ j → j < wb.many → es[3]? = some (.dat (tabD s1)) → EvX ti es F (.int i) F → EvX tj es F (.int j) F → EvX (tOp (rIxL K) (tOp (rIxL K) (tVar 3) ti) tj) es F (.int ((tAt s1.T i.toNat j.toNat).getD 0)) F := fun es F i j ti tj a b c d e h1 h2 => by
        obtain ⟨r, r1, r2⟩ := tat i j a b c d
        exact evx_op (evx_op (evx_var e) h1 (rv_ixL r1)) h2 (rv_ixL r2)
      generalize hV : (fun i j : Nat => (tAt s1.T i j).getD 0) = V
      have hVe : ∀ i j, (tAt s1.T i j).getD 0 = V i j := fun i j => by rw [← hV]
      let ts : List Int := (List.range wb.many.toNat).map fun k => V one.toNat k - V one.toNat 0
      have hts : (ts.length : Int) = wb.many := by show (((List.range wb.many.toNat).map _).length : Int) = _; rw [List.length_map, List.length_range]; omega
      have htsg : ∀ i : Nat, i < wb.many.toNat → ts.getD i 0 = V one.toNat i - V one.toNat 0 := fun i hi => by
        show ((List.range wb.many.toNat).map _).getD i 0 = _
        rw [List.getD_eq_getElem?_getD, List.getElem?_map, List.getElem?_range hi]; rfl
      refine go_asg (d := .lst (ts.map D.int)) (F1 := [(d, .dice K sa ns (kd + 2))]) (EvX.to (EvN.x (evn_mapR (n := wb.many) (fun k => .int (V one.toNat k.toNat - V one.toNat 0)) (fun k => [.val (.ref sa), .val (.ref d), .dat (eW wb), .dat (tabD s1), .dat (.int one), .dat (.int other), .unk, .dat (.int k), .unk]) (by walk_at "eva") (by omega) (fun k => gog_name) (fun j hj => hj) (fun k k0 k1 => ?_))) ?_) ?_
      · have e1 := tev [.val (.ref sa), .val (.ref d), .dat (eW wb), .dat (tabD s1), .dat (.int one), .dat (.int other), .unk, .dat (.int k), .unk] [(d, .dice K sa ns (kd + 2))] one k (tVar 4) (tVar 7) h1.1 h1.2 k0 k1 rfl (evx_var rfl) (evx_var rfl)
        have e2 := tev [.val (.ref sa), .val (.ref d), .dat (eW wb), .dat (tabD s1), .dat (.int one), .dat (.int other), .unk, .dat (.int k), .unk] [(d, .dice K sa ns (kd + 2))] one 0 (tVar 4) (tC (.int 0)) h1.1 h1.2 (by omega) (by omega) rfl (evx_var rfl) evx_int
        rw [hVe] at e1 e2
        exact evx_op e1 e2 rv_I0
      · show D.lst _ = D.lst (((List.range wb.many.toNat).map fun k => V one.toNat k - V one.toNat 0).map D.int)
        rw [List.map_map, List.map_map]
        rfl
      walk_at "nrm"
      have hkeep : keepsB (bounds wb) ts = true := by
        unfold keepsB
        refine List.all_eq_true.mpr fun b hb => decide_eq_true ?_
        obtain ⟨b1, b2, b3, b4, _, _⟩ := bounds_ok hw b hb
        rw [htsg _ (by omega), htsg _ (by omega)]
        have t1 := tok.tri one.toNat b.1.toNat b.2.1.toNat (by omega) (by omega) (by omega)
        rw [hVe, hVe, hVe] at t1
        by_cases ne : b.1 = b.2.1
        · exfalso
          have hp : b ∈ bounds wb := hb
          unfold bounds at hp
          rcases List.mem_append.mp hp with z | z
          · unfold bndM at z
            obtain ⟨i, hi, hb2⟩ := List.mem_flatMap.mp z
            unfold bndM1 at hb2
            rcases List.mem_cons.mp hb2 with e | e
            · subst e; dsimp only at ne; omega
            · have e := List.mem_singleton.mp e
              subst e; dsimp only at ne; omega
          · unfold bndT at z
            obtain ⟨t, ht, hb2⟩ := List.mem_flatMap.mp z
            have pn : t.1 ≠ t.2.1 := by
              rcases List.mem_append.mp ht with z | z
              · exact (hw.t t z).p.ne
              · exact (hw.f t z).p.ne
            unfold bndT1 at hb2
            rcases List.mem_cons.mp hb2 with e | e
            · subst e; exact pn ne
            · have e := List.mem_singleton.mp e
              subst e; exact pn ne.symm
        · have t2 := tok.bnd b hb ne
          rw [hVe] at t2
          omega
      have h00 : ts.getD 0 0 = 0 := by rw [htsg 0 (by omega)]; omega
      refine go_ifN (b := false) (F1 := [(d, .dice K sa ns (kd + 2))]) (evt_or (b := false) (c := false) (evt_test (evx_op (d1 := .lst (([] : List Int).map D.int)) ?_ (evx_lst eva_nil rfl (by simp)) rv_neNil)) fun _ => EvT.to (evt_not (evt_B (evx_call0 (eva_dat (evx_var rfl) (eva_dat (evx_var rfl) eva_nil)) (I__law_keeps.mk wb hw ts hts)))) (by rw [hkeep, h00]; rfl)) rfl ?_
      · refine EvX.to (EvN.x (evn_filt (K := K) ts D.int D.int (fun _ => false) (fun t => [.val (.ref sa), .val (.ref d), .dat (eW wb), .dat (tabD s1), .dat (.int one), .dat (.int other), .dat (.lst (ts.map D.int)), .unk, .dat (.int t)]) (evx_var rfl) (by omega) (fun t => gog_name) (fun j hj => hj) (fun t _ => EvT.to (evt_not (evt_B (evx_call0 (eva_dat (evx_var rfl) eva_nil) (I__law_whole.mk t)))) rfl) (fun t _ z => by cases z))) (by simp)
      have e3 := tev [.val (.ref sa), .val (.ref d), .dat (eW wb), .dat (tabD s1), .dat (.int one), .dat (.int other), .dat (.lst (ts.map D.int)), .unk, .unk] [(d, .dice K sa ns (kd + 2))] one other (tVar 4) (tVar 5) h1.1 h1.2 h2.1 h2.2 rfl (evx_var rfl) (evx_var rfl)
      rw [hVe] at e3
      refine go_rt (F' := []) ret (EvX.to (evx_op (evx_op (evx_op (evx_var rfl) (evx_var rfl) (rv_ixL (atI_ints (by omega) (by omega)))) (evx_op (evx_var rfl) (evx_var rfl) (rv_ixL (atI_ints (by omega) (by omega)))) rv_I0) e3 rv_eq_int) ?_)
      rw [htsg _ (by omega), htsg _ (by omega)]
      have dd : V one.toNat one.toNat = 0 := by rw [← hVe, tok.dia one.toNat (by omega)]; rfl
      have e : V one.toNat other.toNat - V one.toNat 0 - (V one.toNat one.toNat - V one.toNat 0) = V one.toNat other.toNat := by omega
      rw [e, decide_eq_true rfl]

end
/-! ### the head -/
def fnL : List He.DefD := [⟨("_law_next", none), "_law_next", "_law_next", defArgs (topS 13), defBody (topS 13), defScope (topS 13), [], []⟩,
  ⟨("_law_falls", none), "_law_falls", "_law_falls", defArgs (topS 16), defBody (topS 16), defScope (topS 16), [], []⟩,
  ⟨("_law_ties", none), "_law_ties", "_law_ties", defArgs (topS 17), defBody (topS 17), defScope (topS 17), [], []⟩,
  ⟨("_law_named", none), "_law_named", "_law_named", defArgs (topS 15), defBody (topS 15), defScope (topS 15), [], []⟩,
  ⟨("_law_web", none), "_law_web", "_law_web", defArgs (topS 18), defBody (topS 18), defScope (topS 18), [], []⟩,
  ⟨("NoTimes", some "__init__"), "__init__", "NoTimes.__init__", defArgs (inClass (topS 4) 0), defBody (inClass (topS 4) 0), defScope (inClass (topS 4) 0), [], []⟩,
  ⟨("Spans", some "is_better"), "is_better", "Spans.is_better", defArgs (inClass (topS 10) 1), defBody (inClass (topS 10) 1), defScope (inClass (topS 10) 1), [], []⟩,
  ⟨("Spans", some "take"), "take", "Spans.take", defArgs (inClass (topS 10) 3), defBody (inClass (topS 10) 3), defScope (inClass (topS 10) 3), [], []⟩,
  ⟨("Spans", some "go_by"), "go_by", "Spans.go_by", defArgs (inClass (topS 10) 2), defBody (inClass (topS 10) 2), defScope (inClass (topS 10) 2), [], []⟩,
  ⟨("Spans", some "__init__"), "__init__", "Spans.__init__", defArgs (inClass (topS 10) 0), defBody (inClass (topS 10) 0), defScope (inClass (topS 10) 0), [], []⟩,
  ⟨("Web", some "bounds"), "bounds", "Web.bounds", defArgs (inClass (topS 8) 8), defBody (inClass (topS 8) 8), defScope (inClass (topS 8) 8), [], []⟩,
  ⟨("tight", none), "tight", "tight", defArgs (topS 11), defBody (topS 11), defScope (topS 11), [], []⟩,
  ⟨("Web", some "is_pair"), "is_pair", "Web.is_pair", defArgs (inClass (topS 8) 3), defBody (inClass (topS 8) 3), defScope (inClass (topS 8) 3), [], []⟩,
  ⟨("Web", some "need_tie"), "need_tie", "Web.need_tie", defArgs (inClass (topS 8) 1), defBody (inClass (topS 8) 1), defScope (inClass (topS 8) 1), [], []⟩,
  ⟨("Web", some "need_fall"), "need_fall", "Web.need_fall", defArgs (inClass (topS 8) 2), defBody (inClass (topS 8) 2), defScope (inClass (topS 8) 2), [], []⟩,
  ⟨("Web", some "__init__"), "__init__", "Web.__init__", defArgs (inClass (topS 8) 0), defBody (inClass (topS 8) 0), defScope (inClass (topS 8) 0), [], []⟩,
  ⟨("_law_whole", none), "_law_whole", "_law_whole", defArgs (topS 14), defBody (topS 14), defScope (topS 14), [], []⟩,
  ⟨("_law_bounds", none), "_law_bounds", "_law_bounds", defArgs (topS 19), defBody (topS 19), defScope (topS 19), [], []⟩,
  ⟨("_law_keeps", none), "_law_keeps", "_law_keeps", defArgs (topS 20), defBody (topS 20), defScope (topS 20), [], []⟩,
  ⟨("law", none), "law", "law", defArgs (topS 21), defBody (topS 21), defScope (topS 21), [], []⟩]
def faL : List He.Fa := [.glo "_law_next", .glo "_law_falls", .glo "_law_ties", .glo "_law_named", .glo "_law_web", .glo "NoTimes", .meth "NoTimes" "__init__", .glo "Spans", .cls "Spans", .meth "Spans" "is_better", .meth "Spans" "take", .meth "Spans" "go_by", .mkr "Spans", .glo "Web", .cls "Web", .meth "Web" "bounds", .glo "tight", .meth "Web" "is_pair", .meth "Web" "need_tie", .meth "Web" "need_fall", .mkr "Web", .glo "_law_whole", .glo "_law_bounds", .glo "_law_keeps", .glo "law", .int "MOST_MOMENTS" 8, .int "MOST_TIME" 60, .free "bool", .free "int", .free "isinstance", .free "len", .free "list", .free "max", .free "min", .free "range", .glo "MomentError", .noat "NoTimes" "ring", .exm "NoTimes" "NoTimes" true, .noat "Spans" "many", .noat "Spans" "roads", .noat "Spans" "table", .noat "Web" "falling", .noat "Web" "last", .noat "Web" "many", .noat "Web" "tied"]
def exB (K : PySem.W.Frag) : Bool := oexB K (He.ga K "NoTimes") && baseB K (He.ga K "MomentError") && true
abbrev RowL : PySem.W.OpenRow := PySem.W.OpenLaw.row PySem.Challenge.rw_momentties_k04_whole_each_span_is_met
abbrev hkL : PySem.W.Hook := hookC 5 faL fnL exB
def obL (s : PySem.W.SharedT) : AlC := obsC 5 faL fnL exB (HandSHeadRun.getT s)
theorem obL_eq (s : PySem.W.SharedT) : obL s = hkL.obs s.abs := obsC_eq (HandSHeadRun.getT_eq s)
def namesL : List PySem.Str := ["_wall", "MomentError", "BadWeb", "NoTimes", "MOST_MOMENTS", "MOST_TIME", "Web", "Spans", "tight", "_law_next", "_law_whole", "_law_named", "_law_falls", "_law_ties", "_law_web", "_law_bounds", "_law_keeps"]
theorem runL (w : World) : HandSHeadRun.RunEq RowL (PySem.W.view RowL.prog [21]) hkL obL 3000 namesL w := by
  intro os
  kernel_rfl
theorem factsL {P : Program} {w : World} {K : PySem.W.Frag} {h : Heap} {mg : Str → Option Value} {f : Addr} (X : K.In h) (G : h.Ns mainGlobals mg) (hfa : mg ("law" : Str) = some (.ref f)) (c : SaysC faL fnL exB K) :
    ∃ fd : FuncData, (∀ (s : Shared) (v : Value), BindsTo s fd ⟨[v], []⟩ [("_law_script", v)]) ∧ ∀ base : Heap, K.In base → base.Ns mainGlobals mg → FnOk P w K mg base CX0 8 f fd ["_law_script"] (spLaw K) := by
  have d := c.d
  have m0 : exB K = true := c.more
  unfold exB at m0
  obtain ⟨m1, q2⟩ := He.ba m0
  obtain ⟨m2, q1⟩ := He.ba m1
  have hx_NoTimes := m2
  have hb_MomentError := q1
  have T : Tx K mg := {
    MOST_MOMENTS_ := He.int_ok X G (d.fact 25 (f := .int "MOST_MOMENTS" 8) rfl)
    MOST_TIME_ := He.int_ok X G (d.fact 26 (f := .int "MOST_TIME" 60) rfl)
    bool_ := He.free_ok X G (d.fact 27 (f := .free "bool") rfl)
    int_ := He.free_ok X G (d.fact 28 (f := .free "int") rfl)
    isinstance_ := He.free_ok X G (d.fact 29 (f := .free "isinstance") rfl)
    len_ := He.free_ok X G (d.fact 30 (f := .free "len") rfl)
    list_ := He.free_ok X G (d.fact 31 (f := .free "list") rfl)
    max_ := He.free_ok X G (d.fact 32 (f := .free "max") rfl)
    min_ := He.free_ok X G (d.fact 33 (f := .free "min") rfl)
    range_ := He.free_ok X G (d.fact 34 (f := .free "range") rfl)
    gm_MomentError := He.glo_ok X G (d.fact 35 (f := .glo "MomentError") rfl)
    gm_NoTimes := He.glo_ok X G (d.fact 5 (f := .glo "NoTimes") rfl)
    bi_MomentError := baseB_ok hb_MomentError
    xn_NoTimes_ring := He.noat_ok (d.fact 36 (f := .noat "NoTimes" "ring") rfl)
    xm_NoTimes := He.exm_ok (d.fact 37 (f := .exm "NoTimes" "NoTimes" true) rfl)
    cl_Spans := He.cls_ok (d.fact 8 (f := .cls "Spans") rfl)
    cl_Web := He.cls_ok (d.fact 14 (f := .cls "Web") rfl)
    na_Spans_many := He.noat_ok (d.fact 38 (f := .noat "Spans" "many") rfl)
    na_Spans_roads := He.noat_ok (d.fact 39 (f := .noat "Spans" "roads") rfl)
    na_Spans_table := He.noat_ok (d.fact 40 (f := .noat "Spans" "table") rfl)
    na_Web_falling := He.noat_ok (d.fact 41 (f := .noat "Web" "falling") rfl)
    na_Web_last := He.noat_ok (d.fact 42 (f := .noat "Web" "last") rfl)
    na_Web_many := He.noat_ok (d.fact 43 (f := .noat "Web" "many") rfl)
    na_Web_tied := He.noat_ok (d.fact 44 (f := .noat "Web" "tied") rfl) }
  obtain ⟨fd_0, F_0⟩ := d.def_ 0 rfl
  obtain ⟨fd_1, F_1⟩ := d.def_ 1 rfl
  obtain ⟨fd_2, F_2⟩ := d.def_ 2 rfl
  obtain ⟨fd_3, F_3⟩ := d.def_ 3 rfl
  obtain ⟨fd_4, F_4⟩ := d.def_ 4 rfl
  obtain ⟨fd_5, F_5⟩ := d.def_ 5 rfl
  obtain ⟨fd_6, F_6⟩ := d.def_ 6 rfl
  obtain ⟨fd_7, F_7⟩ := d.def_ 7 rfl
  obtain ⟨fd_8, F_8⟩ := d.def_ 8 rfl
  obtain ⟨fd_9, F_9⟩ := d.def_ 9 rfl
  obtain ⟨fd_10, F_10⟩ := d.def_ 10 rfl
  obtain ⟨fd_11, F_11⟩ := d.def_ 11 rfl
  obtain ⟨fd_12, F_12⟩ := d.def_ 12 rfl
  obtain ⟨fd_13, F_13⟩ := d.def_ 13 rfl
  obtain ⟨fd_14, F_14⟩ := d.def_ 14 rfl
  obtain ⟨fd_15, F_15⟩ := d.def_ 15 rfl
  obtain ⟨fd_16, F_16⟩ := d.def_ 16 rfl
  obtain ⟨fd_17, F_17⟩ := d.def_ 17 rfl
  obtain ⟨fd_18, F_18⟩ := d.def_ 18 rfl
  obtain ⟨fd_19, F_19⟩ := d.def_ 19 rfl
  have eL := hfa.symm.trans (He.glo_ok X G (d.fact 24 (f := .glo "law") rfl))
  cases eL
  have bL := FunD.bindsA (ps := ["_law_script"]) F_19 fun _ _ _ _ _ _ us hl => match us, hl with | [_], _ => rfl
  refine ⟨fd_19, fun s v => bL s [v] rfl, fun base _ _ => ?_⟩
  have c__law_next := ok__law_next (P := P) (w := w) (base := base) T F_0 (He.glo_ok X G (d.fact 0 (f := .glo "_law_next") rfl)) 
  have c__law_falls := ok__law_falls (P := P) (w := w) (base := base) T F_1 (He.glo_ok X G (d.fact 1 (f := .glo "_law_falls") rfl)) c__law_next
  have c__law_ties := ok__law_ties (P := P) (w := w) (base := base) T F_2 (He.glo_ok X G (d.fact 2 (f := .glo "_law_ties") rfl)) c__law_next
  have c__law_named := ok__law_named (P := P) (w := w) (base := base) T F_3 (He.glo_ok X G (d.fact 3 (f := .glo "_law_named") rfl)) 
  have c__law_web := ok__law_web (P := P) (w := w) (base := base) T F_4 (He.glo_ok X G (d.fact 4 (f := .glo "_law_web") rfl)) c__law_next c__law_falls c__law_ties c__law_named
  have me_NoTimes := (He.meth_ok (d.fact 6 (f := .meth "NoTimes" "__init__") rfl))
  have x_NoTimes := ok_NoTimes___init__ (P := P) (w := w) (base := base) T F_5 (oexB_ok hx_NoTimes) me_NoTimes.at_ (beq_iff_eq.mp me_NoTimes.fn) (He.glo_ok X G (d.fact 5 (f := .glo "NoTimes") rfl))
  have c_Spans_is_better := ok_Spans_is_better (P := P) (w := w) (base := base) T F_6 (He.cls_ok (d.fact 8 (f := .cls "Spans") rfl)) (He.meth_ok (d.fact 9 (f := .meth "Spans" "is_better") rfl)) 
  have c_Spans_take := ok_Spans_take (P := P) (w := w) (base := base) T F_7 (He.cls_ok (d.fact 8 (f := .cls "Spans") rfl)) (He.meth_ok (d.fact 10 (f := .meth "Spans" "take") rfl)) x_NoTimes
  have c_Spans_go_by := ok_Spans_go_by (P := P) (w := w) (base := base) T F_8 (He.cls_ok (d.fact 8 (f := .cls "Spans") rfl)) (He.meth_ok (d.fact 11 (f := .meth "Spans" "go_by") rfl)) c_Spans_is_better c_Spans_take
  have c_Spans := ok_Spans___init__ (P := P) (w := w) (base := base) T F_9 (He.mkr_ok (d.fact 12 (f := .mkr "Spans") rfl)) (He.glo_ok X G (d.fact 7 (f := .glo "Spans") rfl)) x_NoTimes c_Spans_is_better c_Spans_go_by
  have c_Web_bounds := ok_Web_bounds (P := P) (w := w) (base := base) T F_10 (He.cls_ok (d.fact 14 (f := .cls "Web") rfl)) (He.meth_ok (d.fact 15 (f := .meth "Web" "bounds") rfl)) 
  have c_tight := ok_tight (P := P) (w := w) (base := base) T F_11 (He.glo_ok X G (d.fact 16 (f := .glo "tight") rfl)) c_Spans c_Web_bounds
  have c_Web_is_pair := ok_Web_is_pair (P := P) (w := w) (base := base) T F_12 (He.cls_ok (d.fact 14 (f := .cls "Web") rfl)) (He.meth_ok (d.fact 17 (f := .meth "Web" "is_pair") rfl)) 
  have c_Web_need_tie := ok_Web_need_tie (P := P) (w := w) (base := base) T F_13 (He.cls_ok (d.fact 14 (f := .cls "Web") rfl)) (He.meth_ok (d.fact 18 (f := .meth "Web" "need_tie") rfl)) c_Web_is_pair
  have c_Web_need_fall := ok_Web_need_fall (P := P) (w := w) (base := base) T F_14 (He.cls_ok (d.fact 14 (f := .cls "Web") rfl)) (He.meth_ok (d.fact 19 (f := .meth "Web" "need_fall") rfl)) c_Web_is_pair
  have c_Web := ok_Web___init__ (P := P) (w := w) (base := base) T F_15 (He.mkr_ok (d.fact 20 (f := .mkr "Web") rfl)) (He.glo_ok X G (d.fact 13 (f := .glo "Web") rfl)) c_Web_need_tie c_Web_need_fall
  have c__law_whole := ok__law_whole (P := P) (w := w) (base := base) T F_16 (He.glo_ok X G (d.fact 21 (f := .glo "_law_whole") rfl)) 
  have c__law_bounds := ok__law_bounds (P := P) (w := w) (base := base) T F_17 (He.glo_ok X G (d.fact 22 (f := .glo "_law_bounds") rfl)) 
  have c__law_keeps := ok__law_keeps (P := P) (w := w) (base := base) T F_18 (He.glo_ok X G (d.fact 23 (f := .glo "_law_keeps") rfl)) c__law_bounds
  exact ok_law T F_19 c__law_web c_tight c_Web c__law_next c__law_whole c__law_keeps
end W
open PySem PySem.W PySem.Calls PyProof.Rows
theorem PySem.Challenge.cw_momentties_k04_whole_each_span_is_met_holds : PySem.Challenge.rw_momentties_k04_whole_each_span_is_met.Holds := by
  w_on; o_law
  refine HandSHeadRun.head_any (r := OpenLaw.row PySem.Challenge.rw_momentties_k04_whole_each_span_is_met) (q := view (OpenLaw.row PySem.Challenge.rw_momentties_k04_whole_each_span_is_met).prog [21]) (H := W.hkL) (ob := W.obL) (M := 3000) (loose := W.namesL) (d := HandSHeadRun.topDef (OpenLaw.row PySem.Challenge.rw_momentties_k04_whole_each_span_is_met).prog 21) (kwd := []) W.obL_eq
    (by kernel_rfl) (fun s => by kernel_rfl) W.runL (by kernel_rfl) (by kernel_rfl) (by kernel_rfl) (by rfl) (by first | assumption | decide +kernel) (by decide +kernel) ⟨rfl, rfl, rfl, rfl, rfl, by decide +kernel⟩ ?hw ?hc
  case hw => w_witness2
  case hc =>
    refine L2.walk_ofE (l := PySem.Challenge.rw_momentties_k04_whole_each_span_is_met) (n := 63) (k := 8) (x := "_law_script") (CX := L2.CX0) rfl (by decide) (by kernel_rfl) ⟨rfl, by decide, by decide⟩ ?F (fun _ _ _ _ z => z)
    intro w mg fa h Y G hmg0
    obtain ⟨K, KX, c⟩ := Y
    have hmg : mg ("law" : PySem.Str) = some (.ref fa) := by
      have e : (HandSHeadRun.topDef (OpenLaw.row PySem.Challenge.rw_momentties_k04_whole_each_span_is_met).prog 21).name = ("law" : PySem.Str) := by kernel_rfl
      rw [← e]
      exact hmg0
    obtain ⟨fd, hb, hF⟩ := W.factsL (P := (PySem.Challenge.rw_momentties_k04_whole_each_span_is_met).prog) (w := w) KX G hmg c
    exact ⟨K, fd, DL.spLaw K, KX, hb, fun H a ns hl _ hS => ⟨a, ns, rfl, hl, hS, fun _ => rfl⟩, hF⟩
