import PyProof.Rows.All
import Wide.All
import OpenK.AllK
import Wide.FinOn
import HandS.ForMost
import HandS.Walk
import KE.KStateDown
import HandS.Defaults
import HandS.Head0
import HandS.Head1
import HandS.Head2
import HandS.HeadEnd
import HandS.HeadHook1
import HandS.HeadHook2
import PySem.Challenge.RW_whensure_k68_whole_bounds_of_two_devices
set_option Elab.async false
set_option linter.all false
set_option maxRecDepth 100000
set_option maxHeartbeats 4000000
set_option autoImplicit false
/-! ## LayA -/
namespace W3
open PySem L2

abbrev Fg := PySem.W.Frag

/-! ### data at a value: the frozen part G of the heap bears it -/
mutual
inductive Da (K : Fg) (G : Hp) : V → PyData → Prop
  | non : Da K G .non .none
  | bl (b : Bool) : Da K G (.bl b) (.bool b)
  | int (i : Int) : Da K G (.int i) (.int i)
  | str (x : Str) : Da K G (.str x) (.str x)
  | lst {a : Addr} {xs : List V} {ds : List PyData} : G a = some (.lst xs) → DaAll K G xs ds → Da K G (.ref a) (.list ds)
  | tup {a : Addr} {xs : List V} {ds : List PyData} : SqT K G a xs → DaAll K G xs ds → Da K G (.ref a) (.tuple ds)
inductive DaAll (K : Fg) (G : Hp) : List V → List PyData → Prop
  | nil : DaAll K G [] []
  | cons {v : V} {vs : List V} {d : PyData} {ds : List PyData} : Da K G v d → DaAll K G vs ds → DaAll K G (v :: vs) (d :: ds)
end

theorem sqT_same {K : Fg} {G G' : Hp} {a : Addr} {xs : List V} (s : Same G G') (h : SqT K G a xs) : SqT K G' a xs := by
  rcases h with (h | ⟨o, h⟩) | h
  · exact .inl (.inl (s _ _ h))
  · exact .inl (.inr ⟨o, s _ _ h⟩)
  · exact .inr h

mutual
theorem Da.mono {K : Fg} {G G' : Hp} (s : Same G G') : ∀ (d : PyData) (v : V), Da K G v d → Da K G' v d
  | .none, _, h => by cases h; exact .non
  | .bool b, _, h => by cases h; exact .bl b
  | .int i, _, h => by cases h; exact .int i
  | .str x, _, h => by cases h; exact .str x
  | .list ds, _, h => by
    cases h with
    | lst h1 h2 => exact .lst (s _ _ h1) (DaAll.mono s ds _ h2)
  | .tuple ds, _, h => by
    cases h with
    | tup h1 h2 => exact .tup (sqT_same s h1) (DaAll.mono s ds _ h2)
  | .dict _, _, h => by cases h
theorem DaAll.mono {K : Fg} {G G' : Hp} (s : Same G G') : ∀ (ds : List PyData) (vs : List V), DaAll K G vs ds → DaAll K G' vs ds
  | [], _, h => by cases h; exact .nil
  | d :: ds, _, h => by
    cases h with
    | cons h1 h2 => exact .cons (Da.mono s d _ h1) (DaAll.mono s ds _ h2)
end
theorem Da.up {K : Fg} {G G' : Hp} {v : V} {d : PyData} (h : Da K G v d) (s : Same G G') : Da K G' v d := Da.mono s d v h
theorem DaAll.up {K : Fg} {G G' : Hp} {vs : List V} {ds : List PyData} (h : DaAll K G vs ds) (s : Same G G') : DaAll K G' vs ds := DaAll.mono s ds vs h

mutual
theorem Da.dp' {K : Fg} {G H : Hp} (s : Same G H) : ∀ (d : PyData) (v : V), Da K G v d → Dp K H v d
  | .none, _, h => by cases h; exact .non
  | .bool b, _, h => by cases h; exact .bl b
  | .int i, _, h => by cases h; exact .int i
  | .str x, _, h => by cases h; exact .str x
  | .list ds, _, h => by
    cases h with
    | lst h1 h2 => exact .lst (SqL.of (s _ _ h1)) (DaAll.dp' s ds _ h2)
  | .tuple ds, _, h => by
    cases h with
    | tup h1 h2 => exact .tup (sqT_same s h1) (DaAll.dp' s ds _ h2)
  | .dict _, _, h => by cases h
theorem DaAll.dp' {K : Fg} {G H : Hp} (s : Same G H) : ∀ (ds : List PyData) (vs : List V), DaAll K G vs ds → DpAll K H vs ds
  | [], _, h => by cases h; exact .nil
  | d :: ds, _, h => by
    cases h with
    | cons h1 h2 => exact .cons (Da.dp' s d _ h1) (DaAll.dp' s ds _ h2)
end
theorem Da.dp {K : Fg} {G H : Hp} {v : V} {d : PyData} (h : Da K G v d) (s : Same G H) : Dp K H v d := Da.dp' s d v h

theorem DaAll.len {K : Fg} {G : Hp} : ∀ {ds : List PyData} {vs : List V}, DaAll K G vs ds → vs.length = ds.length
  | [], _, h => by cases h; rfl
  | d :: ds, _, h => by
    cases h with
    | cons h1 h2 => rw [List.length_cons, List.length_cons, DaAll.len h2]
theorem DaAll.get {K : Fg} {G : Hp} : ∀ {ds : List PyData} {vs : List V} {i : Nat} {d : PyData}, DaAll K G vs ds → ds[i]? = some d → ∃ v, vs[i]? = some v ∧ Da K G v d
  | [], _, _, _, h, e => by simp at e
  | d :: ds, _, 0, _, h, e => by
    cases h with
    | cons h1 h2 =>
      have e' : d = _ := Option.some.inj e
      subst e'
      exact ⟨_, rfl, h1⟩
  | d :: ds, _, i + 1, _, h, e => by
    cases h with
    | cons h1 h2 =>
      obtain ⟨v, e1, e2⟩ := DaAll.get (i := i) h2 (by simpa using e)
      exact ⟨v, by simpa using e1, e2⟩
/-- from the values' side -/
theorem DaAll.get' {K : Fg} {G : Hp} {ds : List PyData} {vs : List V} {i : Nat} {v : V} (h : DaAll K G vs ds) (e : vs[i]? = some v) : ∃ d, ds[i]? = some d ∧ Da K G v d := by
  have hl := h.len
  have hi := (List.getElem?_eq_some_iff.mp e).1
  have e2 : ds[i]? = some ds[i] := List.getElem?_eq_getElem (by omega)
  obtain ⟨v', e3, e4⟩ := h.get e2
  rw [e] at e3
  cases e3
  exact ⟨_, e2, e4⟩
theorem DaAll.append {K : Fg} {G : Hp} : ∀ {ds es : List PyData} {vs ws : List V}, DaAll K G vs ds → DaAll K G ws es → DaAll K G (vs ++ ws) (ds ++ es)
  | [], _, _, _, h, h' => by cases h; exact h'
  | d :: ds, _, _, _, h, h' => by
    cases h with
    | cons h1 h2 => exact .cons h1 (DaAll.append h2 h')
theorem DaAll.set {K : Fg} {G : Hp} {d' : PyData} {v' : V} (hd : Da K G v' d') : ∀ {ds : List PyData} {vs : List V} (i : Nat), DaAll K G vs ds → DaAll K G (vs.set i v') (ds.set i d')
  | [], _, _, h => by cases h; exact .nil
  | d :: ds, _, 0, h => by
    cases h with
    | cons h1 h2 => exact .cons hd h2
  | d :: ds, _, i + 1, h => by
    cases h with
    | cons h1 h2 => exact .cons h1 (DaAll.set hd i h2)
theorem DaAll.one {K : Fg} {G : Hp} {v : V} {d : PyData} (h : Da K G v d) : DaAll K G [v] [d] := .cons h .nil
theorem DaAll.ints {K : Fg} {G : Hp} : ∀ ns : List Int, DaAll K G (ns.map V.int) (ns.map PyData.int)
  | [] => .nil
  | n :: ns => .cons (.int n) (DaAll.ints ns)
theorem Da.int_inv {K : Fg} {G : Hp} {v : V} {i : Int} (h : Da K G v (.int i)) : v = .int i := by cases h; rfl
theorem Da.bool_inv {K : Fg} {G : Hp} {v : V} {b : Bool} (h : Da K G v (.bool b)) : v = .bl b := by cases h; rfl
theorem Da.str_inv {K : Fg} {G : Hp} {v : V} {x : Str} (h : Da K G v (.str x)) : v = .str x := by cases h; rfl
def isNo : PyData → Bool
  | .none => true
  | _ => false
theorem Da.no_iff {K : Fg} {G : Hp} {v : V} {d : PyData} (h : Da K G v d) : decide (v = .non) = isNo d := by
  cases h <;> first | rfl | exact decide_eq_false (fun z => nomatch z)

/-! ### how frozen part and heap grow -/
structure Grow (M : Addr → Prop) (G H G' H' : Hp) : Prop where
  gg : Same G G'
  gh : Same G' H'
  keep : ∀ a o, G a = none → H a = some o → G' a = none ∧ (¬ M a → H' a = some o) ∧ ∃ o', H' a = some o'
def NoM : Addr → Prop := fun _ => False
theorem Grow.refl {M : Addr → Prop} {G H : Hp} (s : Same G H) : Grow M G H G H := ⟨Same.refl G, s, fun a o h e => ⟨h, fun _ => e, o, e⟩⟩
theorem Grow.trans {M : Addr → Prop} {G H G1 H1 G2 H2 : Hp} (a : Grow M G H G1 H1) (b : Grow M G1 H1 G2 H2) : Grow M G H G2 H2 where
  gg := a.gg.trans b.gg
  gh := b.gh
  keep := fun x o h e => by
    obtain ⟨h1, k1, o1, e1⟩ := a.keep x o h e
    obtain ⟨h2, k2, o2, e2⟩ := b.keep x o1 h1 e1
    refine ⟨h2, fun hm => ?_, o2, e2⟩
    have q := k1 hm
    rw [q] at e1
    cases e1
    exact k2 hm
theorem Grow.mono {M M' : Addr → Prop} {G H G' H' : Hp} (a : Grow M G H G' H') (h : ∀ x, M x → M' x) : Grow M' G H G' H' :=
  ⟨a.gg, a.gh, fun x o g e => by
    obtain ⟨h1, k1, r⟩ := a.keep x o g e
    exact ⟨h1, fun hm => k1 fun z => hm (h x z), r⟩⟩
/-- behind the entry (M0, G0, H0): what is written is the entry's to write, or new since -/
theorem Grow.then {M0 M : Addr → Prop} {G0 H0 G H G' H' : Hp} (a : Grow M0 G0 H0 G H) (b : Grow M G H G' H') (hm : ∀ x, M x → M0 x ∨ H0 x = none) : Grow M0 G0 H0 G' H' where
  gg := a.gg.trans b.gg
  gh := b.gh
  keep := fun x o h e => by
    obtain ⟨h1, k1, o1, e1⟩ := a.keep x o h e
    obtain ⟨h2, k2, o2, e2⟩ := b.keep x o1 h1 e1
    refine ⟨h2, fun hn => ?_, o2, e2⟩
    have q := k1 hn
    rw [q] at e1
    cases e1
    refine k2 fun hx => ?_
    rcases hm x hx with z | z
    · exact hn z
    · rw [z] at e
      cases e
theorem Grow.free {M : Addr → Prop} {G H G' H' : Hp} (a : Grow M G H G' H') {p : Addr} (h : H' p = none) : H p = none := by
  cases q : H p with
  | none => rfl
  | some o =>
    cases g : G p with
    | none =>
      obtain ⟨_, _, o', e⟩ := a.keep p o g q
      rw [h] at e
      cases e
    | some u =>
      have e := a.gh p u (a.gg p u g)
      rw [h] at e
      cases e
theorem free_of {G H : Hp} (s : Same G H) {p : Addr} (h : H p = none) : G p = none := s.free h
/-- a new object, frozen | not -/
theorem Grow.newF {M : Addr → Prop} {G H : Hp} {p : Addr} {o : HO} (s : Same G H) (h : H p = none) : Grow M G H (upd G p o) (upd H p o) where
  gg := fun b u e => by rw [upd_ne (ne_of_none e (free_of s h))]; exact e
  gh := fun b u e => by
    by_cases hb : b = p
    · subst hb; rw [upd_same] at e; rw [upd_same]; exact e
    · rw [upd_ne hb] at e; rw [upd_ne hb]; exact s b u e
  keep := fun a u g e => by
    have hn : a ≠ p := ne_of_none e h
    exact ⟨by rw [upd_ne hn]; exact g, fun _ => by rw [upd_ne hn]; exact e, u, by rw [upd_ne hn]; exact e⟩
theorem Grow.newM {M : Addr → Prop} {G H : Hp} {p : Addr} {o : HO} (s : Same G H) (h : H p = none) : Grow M G H G (upd H p o) where
  gg := Same.refl G
  gh := fun b u e => by rw [upd_ne (ne_of_none (s b u e) h)]; exact s b u e
  keep := fun a u g e => by
    have hn : a ≠ p := ne_of_none e h
    exact ⟨g, fun _ => by rw [upd_ne hn]; exact e, u, by rw [upd_ne hn]; exact e⟩
/-- an object of ours is written -/
theorem Grow.write {M : Addr → Prop} {G H : Hp} {p : Addr} {o : HO} (s : Same G H) (h : G p = none) (hm : M p) : Grow M G H G (upd H p o) where
  gg := Same.refl G
  gh := fun b u e => by rw [upd_ne (ne_of_none e h)]; exact s b u e
  keep := fun a u g e => by
    refine ⟨g, fun hn => ?_, ?_⟩
    · have hn' : a ≠ p := fun z => hn (z ▸ hm)
      rw [upd_ne hn']; exact e
    · by_cases ha : a = p
      · subst ha; exact ⟨o, upd_same⟩
      · exact ⟨u, by rw [upd_ne ha]; exact e⟩
/-- an object of ours is frozen: no step for one who has it, seen from an entry ahead of its making -/
theorem Grow.frz {M : Addr → Prop} {G0 H0 G H : Hp} {p : Addr} {o : HO} (a : Grow M G0 H0 G H) (h : G p = none) (e : H p = some o) (h0 : H0 p = none) : Grow M G0 H0 (upd G p o) H where
  gg := fun b u q => by rw [upd_ne (ne_of_none (a.gg b u q) h)]; exact a.gg b u q
  gh := fun b u q => by
    by_cases hb : b = p
    · subst hb; rw [upd_same] at q; rw [← q]; exact e
    · rw [upd_ne hb] at q; exact a.gh b u q
  keep := fun b u g q => by
    obtain ⟨h1, k1, r⟩ := a.keep b u g q
    have hn : b ≠ p := ne_of_none q h0
    exact ⟨by rw [upd_ne hn]; exact h1, k1, r⟩
theorem same_frz {G : Hp} {p : Addr} {o : HO} (h : G p = none) : Same G (upd G p o) := fun b u q => by rw [upd_ne (ne_of_none q h)]; exact q

/-! ### a frame's instance -/
structure Fr where
  clocks : List PyData
  links : List PyData
  sources : List PyData
/-- the attributes, by name -/
structure FrFs (K : Fg) (G : Hp) (fs : List (Str × V)) (F : Fr) : Prop where
  ex : ∃ (vc vl vs : V), fs.lookup ("clocks" : Str) = some vc ∧ fs.lookup ("links" : Str) = some vl ∧ fs.lookup ("sources" : Str) = some vs ∧
    fs.lookup ("clocks_of" : Str) = none ∧ fs.lookup ("link_part" : Str) = none ∧ fs.lookup ("source_part" : Str) = none ∧
    Da K G vc (.list F.clocks) ∧ Da K G vl (.list F.links) ∧ Da K G vs (.list F.sources)
structure FrAt (K : Fg) (C : Addr) (G : Hp) (v : V) (F : Fr) : Prop where
  ex : ∃ (a dx : Addr) (fs : List (Str × V)) (vc vl vs : V), v = .ref a ∧ G a = some (.ins C dx fs) ∧ fs.lookup ("clocks" : Str) = some vc ∧ fs.lookup ("links" : Str) = some vl ∧ fs.lookup ("sources" : Str) = some vs ∧
    fs.lookup ("clocks_of" : Str) = none ∧ fs.lookup ("link_part" : Str) = none ∧ fs.lookup ("source_part" : Str) = none ∧
    Da K G vc (.list F.clocks) ∧ Da K G vl (.list F.links) ∧ Da K G vs (.list F.sources)
theorem FrAt.up {K : Fg} {C : Addr} {G G' : Hp} {v : V} {F : Fr} (h : FrAt K C G v F) (s : Same G G') : FrAt K C G' v F := by
  obtain ⟨a, dx, fs, vc, vl, vs, h1, h2, h3, h4, h5, h6, h7, h8, h9, h10, h11⟩ := h.ex
  exact ⟨a, dx, fs, vc, vl, vs, h1, s _ _ h2, h3, h4, h5, h6, h7, h8, h9.up s, h10.up s, h11.up s⟩

/-! ### the slots, by entries -/
/-- what a def's body runs over: the written part, the class Frame, what may be written, the entry -/
structure Cn where
  K : Fg
  C : Addr
  M : Addr → Prop
  G0 : Hp
  H0 : Hp
/-- no: nothing known; is: frozen data; fr: a frame; own: a list made here; par: a list handed in (w: to be written), at p; rows: 18 ints at p, to be written; scr: the script -/
inductive En where
  | no
  | is (d : PyData)
  | fr (F : Fr)
  | own (ds : List PyData)
  | par (w : Bool) (p : Addr) (ds : List PyData)
  | rows (p : Addr)
  | scr (ns : List Int)
def isMut : En → Bool
  | .own _ => true
  | .par _ _ _ => true
  | .rows _ => true
  | _ => false
def EnAt (c : Cn) (G H : Hp) : En → Option (Option V) → Prop
  | .no, _ => True
  | .is d, o => ∃ v, o = some (some v) ∧ Da c.K G v d
  | .fr F, o => ∃ v, o = some (some v) ∧ FrAt c.K c.C G v F
  | .own ds, o => ∃ p xs, o = some (some (.ref p)) ∧ G p = none ∧ H p = some (.lst xs) ∧ DaAll c.K G xs ds ∧ c.H0 p = none
  | .par w p ds, o => ∃ xs, o = some (some (.ref p)) ∧ G p = none ∧ H p = some (.lst xs) ∧ DaAll c.K G xs ds ∧ (w = true → c.M p ∨ c.H0 p = none)
  | .rows p, o => ∃ ns : List Int, o = some (some (.ref p)) ∧ G p = none ∧ H p = some (.lst (ns.map V.int)) ∧ ns.length = 18 ∧ (c.M p ∨ c.H0 p = none)
  | .scr ns, o => ∃ a, o = some (some (.ref a)) ∧ SqL c.K G a (ns.map V.int)
structure S3 (c : Cn) (γ : List En) (σ : St) (G H : Hp) : Prop where
  grow : Grow c.M c.G0 c.H0 G H
  len : σ.length = γ.length
  ent : ∀ (i : Nat) (e : En), γ[i]? = some e → EnAt c G H e σ[i]?
  dis : ∀ (i j : Nat) (ei ej : En) (p : Addr), γ[i]? = some ei → γ[j]? = some ej → isMut ei = true → isMut ej = true → σ[i]? = some (some (.ref p)) → σ[j]? = some (some (.ref p)) → i = j
/-- the addresses of the rows among the slots -/
def MutA (γ : List En) : Addr → Prop := fun a => ∃ i : Nat, γ[i]? = some (.rows a)
theorem S3.same {c : Cn} {γ : List En} {σ : St} {G H : Hp} (s : S3 c γ σ G H) : Same G H := s.grow.gh
theorem EnAt.mut {c : Cn} {G H : Hp} {e : En} {o : Option (Option V)} (h : EnAt c G H e o) (m : isMut e = true) : ∃ p xs, o = some (some (.ref p)) ∧ G p = none ∧ H p = some (.lst xs) := by
  cases e with
  | own ds => obtain ⟨p, xs, a, b, d, _⟩ := h; exact ⟨p, xs, a, b, d⟩
  | par w p ds => obtain ⟨xs, a, b, d, _⟩ := h; exact ⟨p, xs, a, b, d⟩
  | rows p => obtain ⟨ns, a, b, d, _⟩ := h; exact ⟨p, _, a, b, d⟩
  | no => cases m
  | is _ => cases m
  | fr _ => cases m
  | scr _ => cases m
/-- an entry stands, its object untouched -/
theorem EnAt.step {c : Cn} {M : Addr → Prop} {G H G' H' : Hp} {e : En} {o : Option (Option V)} (h : EnAt c G H e o) (g : Grow M G H G' H') (n : ∀ p, isMut e = true → o = some (some (.ref p)) → ¬ M p) : EnAt c G' H' e o := by
  cases e with
  | no => trivial
  | is d => obtain ⟨v, a, b⟩ := h; exact ⟨v, a, b.up g.gg⟩
  | fr F => obtain ⟨v, a, b⟩ := h; exact ⟨v, a, b.up g.gg⟩
  | own ds =>
    obtain ⟨p, xs, a, b, d, e, f⟩ := h
    obtain ⟨h1, h2, _⟩ := g.keep p _ b d
    exact ⟨p, xs, a, h1, h2 (n p rfl a), e.up g.gg, f⟩
  | par w p ds =>
    obtain ⟨xs, a, b, d, e, f⟩ := h
    obtain ⟨h1, h2, _⟩ := g.keep p _ b d
    exact ⟨xs, a, h1, h2 (n p rfl a), e.up g.gg, f⟩
  | rows p =>
    obtain ⟨ns, a, b, d, e, f⟩ := h
    obtain ⟨h1, h2, _⟩ := g.keep p _ b d
    exact ⟨ns, a, h1, h2 (n p rfl a), e, f⟩
  | scr ns => obtain ⟨a, b, d⟩ := h; exact ⟨a, b, g.gg.seq d⟩
/-- THE STEP: entries that a step leaves alone stand; the others are told anew -/
theorem S3.step {c : Cn} {γ γ' : List En} {σ : St} {M : Addr → Prop} {G H G' H' : Hp} (s : S3 c γ σ G H) (g : Grow M G H G' H') (hm : ∀ a, M a → c.M a ∨ c.H0 a = none) (hl : γ'.length = γ.length)
    (h : ∀ (i : Nat) (e' : En), γ'[i]? = some e' → ∃ e, γ[i]? = some e ∧ (isMut e' = true → isMut e = true) ∧ ((e' = e ∧ ∀ p, isMut e = true → σ[i]? = some (some (.ref p)) → ¬ M p) ∨ EnAt c G' H' e' σ[i]?)) : S3 c γ' σ G' H' where
  grow := s.grow.then g hm
  len := by rw [s.len, hl]
  ent := fun i e' q => by
    obtain ⟨e, h1, _, h3⟩ := h i e' q
    rcases h3 with ⟨rfl, n⟩ | h3
    · exact (s.ent i _ h1).step g n
    · exact h3
  dis := fun i j ei ej p q1 q2 m1 m2 r1 r2 => by
    obtain ⟨ei', h1, k1, _⟩ := h i ei q1
    obtain ⟨ej', h2, k2, _⟩ := h j ej q2
    exact s.dis i j ei' ej' p h1 h2 (k1 m1) (k2 m2) r1 r2
/-- nothing of ours is written -/
theorem S3.ext {c : Cn} {γ : List En} {σ : St} {G H G' H' : Hp} (s : S3 c γ σ G H) (g : Grow NoM G H G' H') : S3 c γ σ G' H' :=
  s.step g (fun _ z => z.elim) rfl fun i e q => ⟨e, q, id, .inl ⟨rfl, fun _ _ _ z => z⟩⟩
/-- a slot is set -/
theorem S3.set {c : Cn} {γ : List En} {σ : St} {G H : Hp} (s : S3 c γ σ G H) {i : Nat} {e : En} {v : V} (he : EnAt c G H e (some (some v)))
    (hd : isMut e = true → ∀ (j : Nat) (ej : En) (p : Addr), γ[j]? = some ej → isMut ej = true → v = .ref p → j ≠ i → σ[j]? ≠ some (some (.ref p))) : S3 c (γ.set i e) (σ.set i (some v)) G H where
  grow := s.grow
  len := by rw [List.length_set, List.length_set, s.len]
  ent := fun j ej q => by
    by_cases hj : j = i
    · subst hj
      have hlt : j < γ.length := by
        have := (List.getElem?_eq_some_iff.mp q).1
        rwa [List.length_set] at this
      rw [List.getElem?_set_self hlt] at q
      cases q
      rw [List.getElem?_set_self (by rw [s.len]; exact hlt)]
      exact he
    · rw [List.getElem?_set_ne (Ne.symm hj)] at q
      rw [List.getElem?_set_ne (Ne.symm hj)]
      exact s.ent j ej q
  dis := fun a b ea eb p q1 q2 m1 m2 r1 r2 => by
    by_cases ha : a = i
    · by_cases hb : b = i
      · rw [ha, hb]
      · exfalso
        subst ha
        have hlt : a < γ.length := by
          have := (List.getElem?_eq_some_iff.mp q1).1
          rwa [List.length_set] at this
        rw [List.getElem?_set_self hlt] at q1
        cases q1
        rw [List.getElem?_set_self (by rw [s.len]; exact hlt)] at r1
        have ev : v = .ref p := Option.some.inj (Option.some.inj r1)
        rw [List.getElem?_set_ne (Ne.symm hb)] at q2 r2
        exact hd m1 b eb p q2 m2 ev hb r2
    · by_cases hb : b = i
      · exfalso
        subst hb
        have hlt : b < γ.length := by
          have := (List.getElem?_eq_some_iff.mp q2).1
          rwa [List.length_set] at this
        rw [List.getElem?_set_self hlt] at q2
        cases q2
        rw [List.getElem?_set_self (by rw [s.len]; exact hlt)] at r2
        have ev : v = .ref p := Option.some.inj (Option.some.inj r2)
        rw [List.getElem?_set_ne (Ne.symm ha)] at q1 r1
        exact hd m2 a ea p q1 m1 ev ha r1
      · rw [List.getElem?_set_ne (Ne.symm ha)] at q1 r1
        rw [List.getElem?_set_ne (Ne.symm hb)] at q2 r2
        exact s.dis a b ea eb p q1 q2 m1 m2 r1 r2
/-- a list of ours is written -/
theorem S3.put {c : Cn} {γ : List En} {σ : St} {G H : Hp} (s : S3 c γ σ G H) {i : Nat} {e e' : En} {p : Addr} {xs' : List V} (hi : γ[i]? = some e) (hm : isMut e = true) (hp : σ[i]? = some (some (.ref p))) (hw : c.M p ∨ c.H0 p = none)
    (he : EnAt c G (upd H p (.lst xs')) e' σ[i]?) : S3 c (γ.set i e') σ G (upd H p (.lst xs')) := by
  obtain ⟨q, xs, e1, e2, e3⟩ := (s.ent i _ hi).mut hm
  rw [hp] at e1
  cases e1
  refine s.step (M := fun a => a = p) (Grow.write s.same e2 rfl) (fun a z => z ▸ hw) (by rw [List.length_set]) fun j ej q => ?_
  by_cases hj : j = i
  · subst hj
    rw [List.getElem?_set_self (List.getElem?_eq_some_iff.mp hi).1] at q
    cases q
    exact ⟨_, hi, fun _ => hm, .inr he⟩
  · rw [List.getElem?_set_ne (Ne.symm hj)] at q
    refine ⟨ej, q, id, .inl ⟨rfl, fun r m hr z => ?_⟩⟩
    subst z
    exact hj (s.dis j i ej _ r q hi m hm hr hp)
theorem S3.putOwn {c : Cn} {γ : List En} {σ : St} {G H : Hp} (s : S3 c γ σ G H) {i : Nat} {ds ds' : List PyData} {p : Addr} {xs' : List V} (hi : γ[i]? = some (.own ds)) (hp : σ[i]? = some (some (.ref p)))
    (hd : DaAll c.K G xs' ds') : S3 c (γ.set i (.own ds')) σ G (upd H p (.lst xs')) := by
  obtain ⟨q, xs, e1, e2, e3, e4, e5⟩ := s.ent i _ hi
  rw [hp] at e1
  cases e1
  exact s.put hi rfl hp (.inr e5) ⟨p, xs', hp, e2, upd_same, hd, e5⟩
theorem S3.putPar {c : Cn} {γ : List En} {σ : St} {G H : Hp} (s : S3 c γ σ G H) {i : Nat} {ds ds' : List PyData} {p : Addr} {xs' : List V} (hi : γ[i]? = some (.par true p ds))
    (hd : DaAll c.K G xs' ds') : S3 c (γ.set i (.par true p ds')) σ G (upd H p (.lst xs')) := by
  obtain ⟨xs, e1, e2, e3, e4, e5⟩ := s.ent i _ hi
  exact s.put hi rfl e1 (e5 rfl) ⟨xs', e1, e2, upd_same, hd, e5⟩
/-- a list of ours is frozen -/
theorem S3.frz {c : Cn} {γ : List En} {σ : St} {G H : Hp} (s : S3 c γ σ G H) {i : Nat} {ds : List PyData} (hi : γ[i]? = some (.own ds)) :
    ∃ G', Same G G' ∧ S3 c (γ.set i (.is (.list ds))) σ G' H := by
  obtain ⟨p, xs, e1, e2, e3, e4, e5⟩ := s.ent i _ hi
  have sm : Same G (upd G p (.lst xs)) := same_frz e2
  refine ⟨upd G p (.lst xs), sm, s.grow.frz e2 e3 e5, by rw [List.length_set]; exact s.len, fun j e' q => ?_, fun a b ea eb r q1 q2 m1 m2 r1 r2 => ?_⟩
  · by_cases hj : j = i
    · subst hj
      rw [List.getElem?_set_self (List.getElem?_eq_some_iff.mp hi).1] at q
      cases q
      exact ⟨_, e1, .lst upd_same (e4.up sm)⟩
    · rw [List.getElem?_set_ne (Ne.symm hj)] at q
      have h := s.ent j e' q
      cases e' with
      | no => trivial
      | is d => obtain ⟨v, a, b⟩ := h; exact ⟨v, a, b.up sm⟩
      | fr F => obtain ⟨v, a, b⟩ := h; exact ⟨v, a, b.up sm⟩
      | own ds' =>
        obtain ⟨r, ys, a, b, d, e, f⟩ := h
        have hn : r ≠ p := fun z => hj (s.dis j i _ _ p q hi rfl rfl (by rw [a, z]) e1)
        exact ⟨r, ys, a, by rw [upd_ne hn]; exact b, d, e.up sm, f⟩
      | par w r ds' =>
        obtain ⟨ys, a, b, d, e, f⟩ := h
        have hn : r ≠ p := fun z => hj (s.dis j i _ _ p q hi rfl rfl (by rw [a, z]) e1)
        exact ⟨ys, a, by rw [upd_ne hn]; exact b, d, e.up sm, f⟩
      | rows r =>
        obtain ⟨ns, a, b, d, e, f⟩ := h
        have hn : r ≠ p := fun z => hj (s.dis j i _ _ p q hi rfl rfl (by rw [a, z]) e1)
        exact ⟨ns, a, by rw [upd_ne hn]; exact b, d, e, f⟩
      | scr ns => obtain ⟨a, b, d⟩ := h; exact ⟨a, b, sm.seq d⟩
  · have na : a ≠ i := fun z => by
      subst z
      rw [List.getElem?_set_self (List.getElem?_eq_some_iff.mp hi).1] at q1
      cases q1
      cases m1
    have nb : b ≠ i := fun z => by
      subst z
      rw [List.getElem?_set_self (List.getElem?_eq_some_iff.mp hi).1] at q2
      cases q2
      cases m2
    rw [List.getElem?_set_ne (Ne.symm na)] at q1
    rw [List.getElem?_set_ne (Ne.symm nb)] at q2
    exact s.dis a b ea eb r q1 q2 m1 m2 r1 r2
/-- the same slots told by fewer words -/
theorem S3.less {c : Cn} {γ γ' : List En} {σ σ' : St} {G H : Hp} (s : S3 c γ σ G H) (hl : σ'.length = γ'.length) (h : ∀ (i : Nat) (e : En), γ'[i]? = some e → e = .no ∨ (γ[i]? = some e ∧ σ[i]? = σ'[i]?)) : S3 c γ' σ' G H where
  grow := s.grow
  len := hl
  ent := fun i e q => by
    rcases h i e q with rfl | ⟨h1, h2⟩
    · trivial
    · rw [← h2]; exact s.ent i e h1
  dis := fun i j ei ej p q1 q2 m1 m2 r1 r2 => by
    rcases h i ei q1 with rfl | ⟨h1, h2⟩
    · cases m1
    · rcases h j ej q2 with rfl | ⟨h3, h4⟩
      · cases m2
      · exact s.dis i j ei ej p h1 h3 m1 m2 (by rw [h2]; exact r1) (by rw [h4]; exact r2)
/-- a new thing is none of ours -/
theorem S3.apart {c : Cn} {γ : List En} {σ : St} {G H : Hp} (s : S3 c γ σ G H) {p : Addr} (hp : H p = none) : ∀ (j : Nat) (ej : En), γ[j]? = some ej → isMut ej = true → σ[j]? ≠ some (some (.ref p)) := fun j ej q m r => by
  obtain ⟨p', xs, e1, _, e3⟩ := (s.ent j ej q).mut m
  rw [r] at e1
  cases e1
  rw [hp] at e3
  cases e3
theorem S3.notMut {c : Cn} {γ : List En} {σ : St} {G H : Hp} (s : S3 c γ σ G H) {p : Addr} (hp : H p = none) : ¬ MutA γ p := fun ⟨i, h1⟩ => by
  obtain ⟨ns, h2, h3, h4, _⟩ := s.ent i _ h1
  rw [hp] at h4
  cases h4
end W3

/-! ## LayB -/
namespace W3
open PySem L2

/-! ### weakest preconditions over data -/
def wpE (c : Cn) (te : TE) (γ : List En) (P : PyData → Prop) : Prop :=
  ∀ (σ : L2.St) (G H : Hp), S3 c γ σ G H → ∀ Q : VK, (∀ (v : V) (d : PyData) (G' H' : Hp), P d → Da c.K G' v d → S3 c γ σ G' H' → Grow (MutA γ) G H G' H' → Q v H') → te σ H Q
def wpN (c : Cn) (te : TE) (γ : List En) (P : List PyData → Prop) : Prop :=
  ∀ (σ : L2.St) (G H : Hp), S3 c γ σ G H → ∀ Q : VK, (∀ (p : Addr) (xs : List V) (ds : List PyData) (G' H' : Hp), P ds → S3 c γ σ G' H' → Grow (MutA γ) G H G' H' → G' p = none → H' p = some (.lst xs) → DaAll c.K G' xs ds → H p = none → Q (.ref p) H') → te σ H Q
def wpT (c : Cn) (tt : TT) (γ : List En) (P : Bool → Prop) : Prop :=
  ∀ (σ : L2.St) (G H : Hp), S3 c γ σ G H → ∀ Q : Bool → Hp → Prop, (∀ (b : Bool) (G' H' : Hp), P b → S3 c γ σ G' H' → Grow (MutA γ) G H G' H' → Q b H') → tt σ H Q
/-- arguments: data | a frame | the list of the caller's slot -/
inductive Ar where
  | d (x : PyData)
  | f (F : Fr)
  | m (i : Nat)
def ArAt (K : Fg) (C : Addr) (σ : L2.St) (G : Hp) : Ar → V → Prop
  | .d x, v => Da K G v x
  | .f F, v => FrAt K C G v F
  | .m i, v => σ[i]? = some (some v)
inductive ArsAt (K : Fg) (C : Addr) (σ : L2.St) (G : Hp) : List Ar → List V → Prop
  | nil : ArsAt K C σ G [] []
  | cons {a : Ar} {as : List Ar} {v : V} {vs : List V} : ArAt K C σ G a v → ArsAt K C σ G as vs → ArsAt K C σ G (a :: as) (v :: vs)
theorem ArAt.up {K : Fg} {C : Addr} {σ : L2.St} {G G' : Hp} {a : Ar} {v : V} (h : ArAt K C σ G a v) (s : Same G G') : ArAt K C σ G' a v := by
  cases a with
  | d x => exact Da.up h s
  | f F => exact FrAt.up h s
  | m i => exact h
theorem ArsAt.up {K : Fg} {C : Addr} {σ : L2.St} {G G' : Hp} : ∀ {as : List Ar} {vs : List V}, ArsAt K C σ G as vs → Same G G' → ArsAt K C σ G' as vs
  | _, _, .nil, _ => .nil
  | _, _, .cons h t, s => .cons (h.up s) (ArsAt.up t s)
theorem ArsAt.len {K : Fg} {C : Addr} {σ : L2.St} {G : Hp} : ∀ {as : List Ar} {vs : List V}, ArsAt K C σ G as vs → vs.length = as.length
  | _, _, .nil => rfl
  | _, _, .cons _ t => by rw [List.length_cons, List.length_cons, ArsAt.len t]
def wpA (c : Cn) (ta : TA) (γ : List En) (P : List Ar → Prop) : Prop :=
  ∀ (σ : L2.St) (G H : Hp), S3 c γ σ G H → ∀ Q : List V → Hp → Prop, (∀ (vs : List V) (as : List Ar) (G' H' : Hp), P as → ArsAt c.K c.C σ G' as vs → S3 c γ σ G' H' → Grow (MutA γ) G H G' H' → Q vs H') → ta σ H Q
def wpD (c : Cn) (ta : TA) (γ : List En) (P : List PyData → Prop) : Prop :=
  ∀ (σ : L2.St) (G H : Hp), S3 c γ σ G H → ∀ Q : List V → Hp → Prop, (∀ (vs : List V) (ds : List PyData) (G' H' : Hp), P ds → DaAll c.K G' vs ds → S3 c γ σ G' H' → Grow (MutA γ) G H G' H' → Q vs H') → ta σ H Q

section
variable {c : Cn} {γ : List En} {te ta tb : TE} {tt tu : TT} {tl tr : TA} {P : PyData → Prop} {d d1 d2 : PyData}

theorem wpE_mono {P' : PyData → Prop} (h : wpE c te γ P) (k : ∀ d, P d → P' d) : wpE c te γ P' := fun σ G H s Q q => h σ G H s Q fun v d G' H' p => q v d G' H' (k d p)
theorem wpT_mono {P P' : Bool → Prop} (h : wpT c tt γ P) (k : ∀ d, P d → P' d) : wpT c tt γ P' := fun σ G H s Q q => h σ G H s Q fun v G' H' p => q v G' H' (k v p)

/-! names and constants -/
theorem e_var {i : Nat} (h : γ[i]? = some (.is d)) (p : P d) : wpE c (tVar i) γ P := fun σ G H s Q q => by
  obtain ⟨v, e, a⟩ := s.ent i _ h
  exact ⟨v, e, q v d G H p a s (Grow.refl s.same)⟩
theorem e_int {i : Int} (p : P (.int i)) : wpE c (tC (.int i)) γ P := fun σ G H s Q q => q _ _ G H p (.int i) s (Grow.refl s.same)
theorem e_bl {b : Bool} (p : P (.bool b)) : wpE c (tC (.bl b)) γ P := fun σ G H s Q q => q _ _ G H p (.bl b) s (Grow.refl s.same)
theorem e_str {x : Str} (p : P (.str x)) : wpE c (tC (.str x)) γ P := fun σ G H s Q q => q _ _ G H p (.str x) s (Grow.refl s.same)
theorem e_non (p : P .none) : wpE c (tC .non) γ P := fun σ G H s Q q => q _ _ G H p .non s (Grow.refl s.same)
/-- a constant of the module -/
theorem e_glob {v : V} (h : ∀ G, Da c.K G v d) (p : P d) : wpE c (tC v) γ P := fun σ G H s Q q => q _ _ G H p (h G) s (Grow.refl s.same)

/-! two operands -/
def RD (c : Cn) (γ : List En) (r : R2) (d1 d2 : PyData) (P : PyData → Prop) : Prop :=
  ∀ (σ : L2.St) (G H : Hp) (x y : V), S3 c γ σ G H → Da c.K G x d1 → Da c.K G y d2 → ∀ Q : VK, (∀ (v : V) (d : PyData) (G' H' : Hp), P d → Da c.K G' v d → S3 c γ σ G' H' → Grow (MutA γ) G H G' H' → Q v H') → r x y H Q
theorem e_op {r : R2} (h : wpE c ta γ fun d1 => wpE c tb γ fun d2 => RD c γ r d1 d2 P) : wpE c (tOp r ta tb) γ P := fun σ G H s Q q =>
  h σ G H s _ fun x d1 G1 H1 h1 a1 s1 g1 => h1 σ G1 H1 s1 _ fun y d2 G2 H2 h2 a2 s2 g2 => h2 σ G2 H2 x y s2 (a1.up g2.gg) a2 Q fun v d G' H' p a s' g => q v d G' H' p a s' ((g1.trans g2).trans g)
def oAdd : R2 := rI0 fun i j => .int (i + j)
def oSub : R2 := rI0 fun i j => .int (i - j)
def oMul : R2 := rI CMul fun i j => .int (i * j)
def oMod : R2 := rI (fun _ j => 0 < j) fun i j => .int (i % j)
def oDiv : R2 := rI CDiv fun i j => .int (i / j)
def oLt : R2 := rI0 fun i j => .bl (decide (i < j))
def oGt : R2 := rI0 fun i j => .bl (decide (j < i))
def oCatS : R2 := fun x y H Q => ∃ i j, x = .str i ∧ y = .str j ∧ i.length + j.length ≤ sizeLine ∧ Q (.str (i ++ j)) H
def oNotN : R2 := fun x y H Q => y = .non ∧ Q (.bl (!decide (x = .non))) H
def oIn (K : Fg) : R2 := rIn K false
theorem rI0_of {g : Int → Int → V} {i j : Int} (f : PyData) (hf : ∀ G, Da c.K G (g i j) f) (p : P f) : RD c γ (rI0 g) (.int i) (.int j) P := fun σ G H x y s ax ay Q q => by
  obtain rfl := ax.int_inv
  obtain rfl := ay.int_inv
  exact ⟨i, j, rfl, rfl, q _ f G H p (hf G) s (Grow.refl s.same)⟩
theorem rI_of {C : Int → Int → Prop} {g : Int → Int → V} {i j : Int} (f : PyData) (hf : ∀ G, Da c.K G (g i j) f) (hc : C i j) (p : P f) : RD c γ (rI C g) (.int i) (.int j) P := fun σ G H x y s ax ay Q q => by
  obtain rfl := ax.int_inv
  obtain rfl := ay.int_inv
  exact ⟨i, j, rfl, rfl, hc, q _ f G H p (hf G) s (Grow.refl s.same)⟩
theorem r_add {i j : Int} (p : P (.int (i + j))) : RD c γ oAdd (.int i) (.int j) P := rI0_of _ (fun _ => .int _) p
theorem r_sub {i j : Int} (p : P (.int (i - j))) : RD c γ oSub (.int i) (.int j) P := rI0_of _ (fun _ => .int _) p
theorem r_mul {i j : Int} (hc : CMul i j) (p : P (.int (i * j))) : RD c γ oMul (.int i) (.int j) P := rI_of _ (fun _ => .int _) hc p
theorem r_mod {i j : Int} (hc : 0 < j) (p : P (.int (i % j))) : RD c γ oMod (.int i) (.int j) P := rI_of _ (fun _ => .int _) hc p
theorem r_div {i j : Int} (hc : CDiv i j) (p : P (.int (i / j))) : RD c γ oDiv (.int i) (.int j) P := rI_of _ (fun _ => .int _) hc p
theorem r_lt {i j : Int} (p : P (.bool (decide (i < j)))) : RD c γ oLt (.int i) (.int j) P := rI0_of _ (fun _ => .bl _) p
theorem r_gt {i j : Int} (p : P (.bool (decide (j < i)))) : RD c γ oGt (.int i) (.int j) P := rI0_of _ (fun _ => .bl _) p
theorem r_catS {x y : Str} (hl : x.length + y.length ≤ sizeLine) (p : P (.str (x ++ y))) : RD c γ oCatS (.str x) (.str y) P := fun σ G H u v s ax ay Q q => by
  obtain rfl := ax.str_inv
  obtain rfl := ay.str_inv
  exact ⟨x, y, rfl, rfl, hl, q _ _ G H p (.str _) s (Grow.refl s.same)⟩
theorem r_eq (s1 : SeqAt.shaped d1 = true) (s2 : SeqAt.shaped d2 = true) (p : P (.bool (PyData.eqv d1 d2))) : RD c γ (rEqD c.K) d1 d2 P := fun σ G H x y s ax ay Q q =>
  ⟨d1, d2, ax.dp s.same, ay.dp s.same, s1, s2, q _ _ G H p (.bl _) s (Grow.refl s.same)⟩
theorem r_ne (s1 : SeqAt.shaped d1 = true) (s2 : SeqAt.shaped d2 = true) (p : P (.bool (!PyData.eqv d1 d2))) : RD c γ (rNeD c.K) d1 d2 P := fun σ G H x y s ax ay Q q =>
  ⟨d1, d2, ax.dp s.same, ay.dp s.same, s1, s2, q _ _ G H p (.bl _) s (Grow.refl s.same)⟩
theorem r_notN (p : P (.bool (!isNo d1))) : RD c γ oNotN d1 .none P := fun σ G H x y s ax ay Q q => by
  cases ay
  exact ⟨rfl, by rw [ax.no_iff]; exact q _ _ G H p (.bl _) s (Grow.refl s.same)⟩
/-- an item at a place that is there -/
def datI (ds : List PyData) (i : Int) : Option PyData := if 0 ≤ i then ds[i.toNat]? else none
theorem atI_of {K : Fg} {G : Hp} {xs : List V} {ds : List PyData} {i : Int} {d : PyData} (h : DaAll K G xs ds) (e : datI ds i = some d) : ∃ v, atI xs i = some v ∧ Da K G v d := by
  unfold datI at e
  by_cases h0 : 0 ≤ i
  · rw [if_pos h0] at e
    obtain ⟨v, e1, e2⟩ := h.get e
    refine ⟨v, ?_, e2⟩
    have q : i = ((i.toNat : Nat) : Int) := (Int.toNat_of_nonneg h0).symm
    rw [q]
    exact atI_nat e1
  · rw [if_neg h0] at e
    cases e
def itm : PyData → List PyData
  | .list ds => ds
  | .tuple ds => ds
  | _ => []
theorem r_ixT {ds : List PyData} {i : Int} (e : datI ds i = some d) (p : P d) : RD c γ (rIx c.K) (.tuple ds) (.int i) P := fun σ G H x y s ax ay Q q => by
  obtain rfl := ay.int_inv
  cases ax with
  | tup h1 h2 =>
    obtain ⟨v, e1, e2⟩ := atI_of h2 e
    exact .inr (.inl ⟨_, _, i, v, rfl, rfl, sqT_same s.same h1, e1, q v d G H p e2 s (Grow.refl s.same)⟩)
theorem r_ixL {ds : List PyData} {i : Int} (e : datI ds i = some d) (p : P d) : RD c γ (rIx c.K) (.list ds) (.int i) P := fun σ G H x y s ax ay Q q => by
  obtain rfl := ay.int_inv
  cases ax with
  | lst h1 h2 =>
    obtain ⟨v, e1, e2⟩ := atI_of h2 e
    exact .inl ⟨_, _, i, v, rfl, rfl, SqL.of (s.same _ _ h1), e1, q v d G H p e2 s (Grow.refl s.same)⟩
/-- a text among written texts -/
theorem flat_strs {K : Fg} {G : Hp} : ∀ {xs : List V} {ss : List Str}, DaAll K G xs (ss.map PyData.str) → xs = ss.map V.str
  | _, [], h => by cases h; rfl
  | _, x :: ss, h => by
    cases h with
    | cons h1 h2 =>
      obtain rfl := h1.str_inv
      rw [flat_strs h2]
      rfl
theorem all_flat : ∀ ss : List Str, (ss.map V.str).all flatV = true
  | [] => rfl
  | x :: ss => by rw [List.map_cons, List.all_cons, all_flat ss]; rfl
theorem r_inS {x : Str} {ss : List Str} (p : P (.bool (inV (.str x) (ss.map V.str)))) : RD c γ (oIn c.K) (.str x) (.list (ss.map PyData.str)) P := fun σ G H u v s ax ay Q q => by
  obtain rfl := ax.str_inv
  cases ay with
  | lst h1 h2 =>
    obtain rfl := flat_strs h2
    exact ⟨_, _, rfl, .inl (SqL.of (s.same _ _ h1)), rfl, all_flat ss, q _ _ G H p (.bl _) s (Grow.refl s.same)⟩
def tNegU : V → Hp → VK → Prop := rU fun i => .int (-i)
theorem e_neg (h : wpE c ta γ fun d => ∃ i, d = .int i ∧ P (.int (-i))) : wpE c (tUn tNegU ta) γ P := fun σ G H s Q q =>
  h σ G H s _ fun x d G1 H1 h1 a1 s1 g1 => by
    obtain ⟨i, rfl, p⟩ := h1
    obtain rfl := a1.int_inv
    exact ⟨i, rfl, q _ _ G1 H1 p (.int _) s1 g1⟩

/-! displays -/
theorem d_nil {P : List PyData → Prop} (p : P []) : wpD c tNil γ P := fun σ G H s Q q => q [] [] G H p .nil s (Grow.refl s.same)
theorem d_cons {P : List PyData → Prop} (h : wpE c te γ fun d => wpD c tr γ fun ds => P (d :: ds)) : wpD c (tCons te tr) γ P := fun σ G H s Q q =>
  h σ G H s _ fun x d G1 H1 h1 a1 s1 g1 => h1 σ G1 H1 s1 _ fun xs ds G2 H2 h2 a2 s2 g2 => q _ _ G2 H2 h2 (.cons (a1.up g2.gg) a2) s2 (g1.trans g2)
theorem small_len {n : Nat} (h : n ≤ 1000000) : n ≤ sizeLine := Nat.le_trans h (by decide)
theorem small_lt {n : Nat} (h : n < 1000000) : n < sizeLine := Nat.lt_of_lt_of_le h (by decide)
theorem e_tup (h : wpD c tl γ fun ds => ds.length ≤ 1000000 ∧ P (.tuple ds)) : wpE c (tTup tl) γ P := fun σ G H s Q q =>
  h σ G H s _ fun xs ds G1 H1 ⟨hl, p⟩ a1 s1 g1 => ⟨by rw [a1.len]; exact small_len hl, fun t ht => by
    have g2 : Grow NoM G1 H1 (upd G1 t (.tup xs)) (upd H1 t (.tup xs)) := Grow.newF s1.same ht
    exact q _ _ _ _ p (.tup (SqT.of upd_same) (a1.up g2.gg)) (s1.ext g2) (g1.trans (g2.mono fun _ z => z.elim))⟩
theorem n_lst {P : List PyData → Prop} (h : wpD c tl γ fun ds => ds.length ≤ 1000000 ∧ P ds) : wpN c (tLst tl) γ P := fun σ G H s Q q =>
  h σ G H s _ fun xs ds G1 H1 ⟨hl, p⟩ a1 s1 g1 => ⟨by rw [a1.len]; exact small_len hl, fun t ht => by
    have g2 : Grow NoM G1 H1 G1 (upd H1 t (.lst xs)) := Grow.newM s1.same ht
    exact q _ _ _ _ _ p (s1.ext g2) (g1.trans (g2.mono fun _ z => z.elim)) (free_of s1.same ht) upd_same a1 (g1.free ht)⟩
/-- a new list is frozen -/
theorem e_new (h : wpN c te γ fun ds => P (.list ds)) : wpE c te γ P := fun σ G H s Q q =>
  h σ G H s _ fun p xs ds G1 H1 hp s1 g1 e1 e2 a1 h0 => by
    have sm : Same G1 (upd G1 p (.lst xs)) := same_frz e1
    have h00 : c.H0 p = none := s.grow.free h0
    refine q _ _ (upd G1 p (.lst xs)) H1 hp (.lst upd_same (a1.up sm)) ?_ (g1.frz e1 e2 h0)
    refine ⟨s1.grow.frz e1 e2 h00, s1.len, fun i e hi => ?_, s1.dis⟩
    have k := s1.ent i e hi
    have na : isMut e = true → σ[i]? ≠ some (some (.ref p)) := fun m => s.apart h0 i e hi m
    cases e with
    | no => trivial
    | is d => obtain ⟨v, a, b⟩ := k; exact ⟨v, a, b.up sm⟩
    | fr F => obtain ⟨v, a, b⟩ := k; exact ⟨v, a, b.up sm⟩
    | own ds' =>
      obtain ⟨r, ys, a, b, d, e, f⟩ := k
      have hn : r ≠ p := fun z => na rfl (by rw [a, z])
      exact ⟨r, ys, a, by rw [upd_ne hn]; exact b, d, e.up sm, f⟩
    | par w r ds' =>
      obtain ⟨ys, a, b, d, e, f⟩ := k
      have hn : r ≠ p := fun z => na rfl (by rw [a, z])
      exact ⟨ys, a, by rw [upd_ne hn]; exact b, d, e.up sm, f⟩
    | rows r =>
      obtain ⟨ns, a, b, d, e, f⟩ := k
      have hn : r ≠ p := fun z => na rfl (by rw [a, z])
      exact ⟨ns, a, by rw [upd_ne hn]; exact b, d, e, f⟩
    | scr ns => obtain ⟨a, b, d⟩ := k; exact ⟨a, b, sm.seq d⟩
/-- list + list -/
theorem n_cat {P : List PyData → Prop} (h : wpE c ta γ fun d1 => wpE c tb γ fun d2 => ∃ l1 l2, d1 = .list l1 ∧ d2 = .list l2 ∧ l1.length + l2.length ≤ 1000000 ∧ P (l1 ++ l2)) : wpN c (tOp rCat ta tb) γ P := fun σ G H s Q q =>
  h σ G H s _ fun x d1 G1 H1 h1 a1 s1 g1 => h1 σ G1 H1 s1 _ fun y d2 G2 H2 h2 a2 s2 g2 => by
    obtain ⟨l1, l2, rfl, rfl, hl, p⟩ := h2
    have a1' := a1.up g2.gg
    cases a1' with
    | lst b1 b2 =>
      cases a2 with
      | lst c1 c2 =>
        refine ⟨_, _, _, _, rfl, rfl, s2.same _ _ b1, s2.same _ _ c1, by rw [b2.len, c2.len]; exact small_len hl, fun t ht => ?_⟩
        have g3 : ∀ o, Grow NoM G2 H2 G2 (upd H2 t o) := fun o => Grow.newM s2.same ht
        exact q _ _ _ _ _ p (s2.ext (g3 _)) ((g1.trans g2).trans ((g3 _).mono fun _ z => z.elim)) (free_of s2.same ht) upd_same (b2.append c2) ((g1.trans g2).free ht)

/-! tests -/
theorem t_test {P : Bool → Prop} (h : wpE c te γ fun d => ∃ b, d = .bool b ∧ P b) : wpT c (tTest te) γ P := fun σ G H s Q q =>
  h σ G H s _ fun x d G1 H1 h1 a1 s1 g1 => by
    obtain ⟨b, rfl, p⟩ := h1
    obtain rfl := a1.bool_inv
    exact ⟨b, rfl, q b G1 H1 p s1 g1⟩
theorem t_B {P : Bool → Prop} (h : wpE c te γ fun d => ∃ b, d = .bool b ∧ P b) : wpT c (tB te) γ P := fun σ G H s Q q =>
  h σ G H s _ fun x d G1 H1 h1 a1 s1 g1 => by
    obtain ⟨b, rfl, p⟩ := h1
    obtain rfl := a1.bool_inv
    exact ⟨b, rfl, q b G1 H1 p s1 g1⟩
theorem t_and {P : Bool → Prop} (h : wpT c tt γ fun a => (a = true → wpT c tu γ P) ∧ (a = false → P false)) : wpT c (tAnd tt tu) γ P := fun σ G H s Q q =>
  h σ G H s _ fun a G1 H1 h1 s1 g1 => by
    cases a with
    | true =>
      show tu σ H1 Q
      exact h1.1 rfl σ G1 H1 s1 Q fun b G2 H2 p s2 g2 => q b G2 H2 p s2 (g1.trans g2)
    | false =>
      show Q false H1
      exact q false G1 H1 (h1.2 rfl) s1 g1
theorem t_or {P : Bool → Prop} (h : wpT c tt γ fun a => (a = true → P true) ∧ (a = false → wpT c tu γ P)) : wpT c (tOr tt tu) γ P := fun σ G H s Q q =>
  h σ G H s _ fun a G1 H1 h1 s1 g1 => by
    cases a with
    | true =>
      show Q true H1
      exact q true G1 H1 (h1.1 rfl) s1 g1
    | false =>
      show tu σ H1 Q
      exact h1.2 rfl σ G1 H1 s1 Q fun b G2 H2 p s2 g2 => q b G2 H2 p s2 (g1.trans g2)
theorem t_not {P : Bool → Prop} (h : wpT c tt γ fun a => P (!a)) : wpT c (tNot tt) γ P := fun σ G H s Q q => h σ G H s _ fun a G1 H1 h1 s1 g1 => q (!a) G1 H1 h1 s1 g1
theorem e_and (h : wpE c ta γ fun d => ∃ a, d = .bool a ∧ (a = true → wpE c tb γ P) ∧ (a = false → P (.bool false))) : wpE c (tAndV ta tb) γ P := fun σ G H s Q q =>
  h σ G H s _ fun x d G1 H1 h1 a1 s1 g1 => by
    obtain ⟨a, rfl, p1, p2⟩ := h1
    obtain rfl := a1.bool_inv
    refine ⟨a, rfl, ?_⟩
    cases a with
    | true =>
      show tb σ H1 Q
      exact p1 rfl σ G1 H1 s1 Q fun v d G2 H2 p a s2 g2 => q v d G2 H2 p a s2 (g1.trans g2)
    | false =>
      show Q (.bl false) H1
      exact q _ _ G1 H1 (p2 rfl) (.bl _) s1 g1
theorem e_or (h : wpE c ta γ fun d => ∃ a, d = .bool a ∧ (a = true → P (.bool true)) ∧ (a = false → wpE c tb γ P)) : wpE c (tOrV ta tb) γ P := fun σ G H s Q q =>
  h σ G H s _ fun x d G1 H1 h1 a1 s1 g1 => by
    obtain ⟨a, rfl, p1, p2⟩ := h1
    obtain rfl := a1.bool_inv
    refine ⟨a, rfl, ?_⟩
    cases a with
    | false =>
      show tb σ H1 Q
      exact p2 rfl σ G1 H1 s1 Q fun v d G2 H2 p a s2 g2 => q v d G2 H2 p a s2 (g1.trans g2)
    | true =>
      show Q (.bl true) H1
      exact q _ _ G1 H1 (p1 rfl) (.bl _) s1 g1
theorem e_not (h : wpE c ta γ fun d => ∃ a, d = .bool a ∧ P (.bool (!a))) : wpE c (tNotV ta) γ P := fun σ G H s Q q =>
  h σ G H s _ fun x d G1 H1 h1 a1 s1 g1 => by
    obtain ⟨a, rfl, p⟩ := h1
    obtain rfl := a1.bool_inv
    exact ⟨a, rfl, q _ _ G1 H1 p (.bl _) s1 g1⟩
theorem e_if (h : wpT c tt γ fun b => (b = true → wpE c ta γ P) ∧ (b = false → wpE c tb γ P)) : wpE c (tIf tt ta tb) γ P := fun σ G H s Q q =>
  h σ G H s _ fun b G1 H1 h1 s1 g1 => by
    cases b with
    | true =>
      show ta σ H1 Q
      exact h1.1 rfl σ G1 H1 s1 Q fun v d G2 H2 p a s2 g2 => q v d G2 H2 p a s2 (g1.trans g2)
    | false =>
      show tb σ H1 Q
      exact h1.2 rfl σ G1 H1 s1 Q fun v d G2 H2 p a s2 g2 => q v d G2 H2 p a s2 (g1.trans g2)

/-! attributes of a frame -/
structure Cls3 (K : Fg) (C : Addr) : Prop where
  cl : Cls K C
  nD : NoAttr K C "devices"
  nC : NoAttr K C "clocks"
  nL : NoAttr K C "links"
  nS : NoAttr K C "sources"
  nF : NoAttr K C "faults"
theorem e_clocks {i : Nat} {F : Fr} (T : Cls3 c.K c.C) (h : γ[i]? = some (.fr F)) (p : P (.list F.clocks)) : wpE c (tFld c.K (tVar i) "clocks") γ P := fun σ G H s Q q => by
  obtain ⟨v, e, f⟩ := s.ent i _ h
  obtain ⟨a, dx, fs, vc, vl, vs, h1, h2, h3, h4, h5, h6, h7, h8, h9, h10, h11⟩ := f.ex
  exact ⟨v, e, a, c.C, dx, fs, vc, h1, s.same _ _ h2, T.cl, T.nC, h3, q vc _ G H p h9 s (Grow.refl s.same)⟩
theorem e_links {i : Nat} {F : Fr} (T : Cls3 c.K c.C) (h : γ[i]? = some (.fr F)) (p : P (.list F.links)) : wpE c (tFld c.K (tVar i) "links") γ P := fun σ G H s Q q => by
  obtain ⟨v, e, f⟩ := s.ent i _ h
  obtain ⟨a, dx, fs, vc, vl, vs, h1, h2, h3, h4, h5, h6, h7, h8, h9, h10, h11⟩ := f.ex
  exact ⟨v, e, a, c.C, dx, fs, vl, h1, s.same _ _ h2, T.cl, T.nL, h4, q vl _ G H p h10 s (Grow.refl s.same)⟩
theorem e_sources {i : Nat} {F : Fr} (T : Cls3 c.K c.C) (h : γ[i]? = some (.fr F)) (p : P (.list F.sources)) : wpE c (tFld c.K (tVar i) "sources") γ P := fun σ G H s Q q => by
  obtain ⟨v, e, f⟩ := s.ent i _ h
  obtain ⟨a, dx, fs, vc, vl, vs, h1, h2, h3, h4, h5, h6, h7, h8, h9, h10, h11⟩ := f.ex
  exact ⟨v, e, a, c.C, dx, fs, vs, h1, s.same _ _ h2, T.cl, T.nS, h5, q vs _ G H p h11 s (Grow.refl s.same)⟩

/-! built-ins -/
def rLen3 (K : Fg) : List V → Hp → VK → Prop := fun xs H Q => ∃ p ys, xs = [.ref p] ∧ (SqL K H p ys ∨ SqT K H p ys) ∧ Q (.int ys.length) H
def rInt3 : List V → Hp → VK → Prop := fun xs H Q => (∃ i, xs = [.int i] ∧ Q (.int i) H) ∨ ∃ k, xs = [.bl k] ∧ Q (.int (if k then 1 else 0)) H
def rStr3 : List V → Hp → VK → Prop := fun xs H Q => ∃ i, xs = [.int i] ∧ i.natAbs.log2 < 1920 ∧ Q (.str (toString i)) H
def rList3 (K : Fg) : List V → Hp → VK → Prop := fun xs H Q => ∃ p ys, xs = [.ref p] ∧ (SqL K H p ys ∨ SqT K H p ys) ∧ ∀ l, H l = none → Q (.ref l) (upd H l (.lst ys))
def rTuple3 (K : Fg) : List V → Hp → VK → Prop := fun xs H Q => ∃ p ys, xs = [.ref p] ∧ ((SqL K H p ys ∧ ∀ l, H l = none → Q (.ref l) (upd H l (.tup ys))) ∨ (SqT K H p ys ∧ Q (.ref p) H))
theorem e_len (h : wpE c te γ fun d => ∃ l, d = .list l ∧ P (.int l.length)) : wpE c (tCB (rLen3 c.K) (tCons te tNil)) γ P := fun σ G H s Q q =>
  h σ G H s _ fun x d G1 H1 h1 a1 s1 g1 => by
    obtain ⟨l, rfl, p⟩ := h1
    cases a1 with
    | lst b1 b2 => exact ⟨_, _, rfl, .inl (SqL.of (s1.same _ _ b1)), q _ _ G1 H1 (by rw [b2.len]; exact p) (.int _) s1 g1⟩
/-- what a list of ours holds -/
def lisOf : En → Option (List PyData)
  | .own ds => some ds
  | .par _ _ ds => some ds
  | _ => none
theorem lis_at {σ : L2.St} {G H : Hp} {i : Nat} {e : En} {ds : List PyData} (s : S3 c γ σ G H) (h : γ[i]? = some e) (l : lisOf e = some ds) : ∃ p xs, σ[i]? = some (some (.ref p)) ∧ H p = some (.lst xs) ∧ DaAll c.K G xs ds := by
  have k := s.ent i _ h
  cases e with
  | own ds' =>
    cases l
    obtain ⟨p, xs, a, b, d, e, f⟩ := k
    exact ⟨p, xs, a, d, e⟩
  | par w p ds' =>
    cases l
    obtain ⟨xs, a, b, d, e, f⟩ := k
    exact ⟨p, xs, a, d, e⟩
  | _ => cases l
theorem e_lenOwn {i : Nat} {e : En} {ds : List PyData} (h : γ[i]? = some e) (l : lisOf e = some ds) (p : P (.int ds.length)) : wpE c (tCB (rLen3 c.K) (tCons (tVar i) tNil)) γ P := fun σ G H s Q q => by
  obtain ⟨r, xs, e1, e3, e4⟩ := lis_at s h l
  exact ⟨_, e1, _, _, rfl, .inl (SqL.of e3), q _ _ G H (by rw [e4.len]; exact p) (.int _) s (Grow.refl s.same)⟩
theorem e_lenScr {i : Nat} {ns : List Int} (h : γ[i]? = some (.scr ns)) (p : P (.int ns.length)) : wpE c (tCB (rLen3 c.K) (tCons (tVar i) tNil)) γ P := fun σ G H s Q q => by
  obtain ⟨a, e1, e2⟩ := s.ent i _ h
  exact ⟨_, e1, _, _, rfl, .inl (s.same.seq e2), q _ _ G H (by rw [List.length_map]; exact p) (.int _) s (Grow.refl s.same)⟩
theorem e_ixScr {i : Nat} {ns : List Int} (h : γ[i]? = some (.scr ns)) (h2 : wpE c tb γ fun d => ∃ j n, d = .int j ∧ 0 ≤ j ∧ ns[j.toNat]? = some n ∧ P (.int n)) : wpE c (tOp (rIx c.K) (tVar i) tb) γ P := fun σ G H s Q q => by
  obtain ⟨a, e1, e2⟩ := s.ent i _ h
  refine ⟨_, e1, h2 σ G H s _ fun y d G1 H1 h1 a1 s1 g1 => ?_⟩
  obtain ⟨j, n, rfl, h0, hn, p⟩ := h1
  obtain rfl := a1.int_inv
  refine .inl ⟨a, _, j, .int n, rfl, rfl, s1.same.seq (g1.gg.seq e2), ?_, q _ _ G1 H1 p (.int _) s1 g1⟩
  have e : j = ((j.toNat : Nat) : Int) := (Int.toNat_of_nonneg h0).symm
  rw [e]
  exact atI_nat (by rw [List.getElem?_map, hn]; rfl)
theorem e_ixOwn {i : Nat} {e : En} {ds : List PyData} (h : γ[i]? = some e) (l : lisOf e = some ds) (h2 : wpE c tb γ fun d => ∃ j d', d = .int j ∧ datI ds j = some d' ∧ P d') : wpE c (tOp (rIx c.K) (tVar i) tb) γ P := fun σ G H s Q q => by
  obtain ⟨r, xs, e1, e3, e4⟩ := lis_at s h l
  refine ⟨_, e1, h2 σ G H s _ fun y d G1 H1 h1 a1 s1 g1 => ?_⟩
  obtain ⟨j, d', rfl, hn, p⟩ := h1
  obtain rfl := a1.int_inv
  obtain ⟨r', xs', e1', e3', e4'⟩ := lis_at s1 h l
  rw [e1] at e1'
  cases e1'
  obtain ⟨v, q1, q2⟩ := atI_of e4' hn
  exact .inl ⟨r, xs', j, v, rfl, rfl, SqL.of e3', q1, q _ _ G1 H1 p q2 s1 g1⟩
theorem e_int1 (h : wpE c te γ fun d => ∃ i, d = .int i ∧ P (.int i)) : wpE c (tCB rInt3 (tCons te tNil)) γ P := fun σ G H s Q q =>
  h σ G H s _ fun x d G1 H1 h1 a1 s1 g1 => by
    obtain ⟨l, rfl, p⟩ := h1
    obtain rfl := a1.int_inv
    exact .inl ⟨l, rfl, q _ _ G1 H1 p (.int _) s1 g1⟩
theorem e_str1 (h : wpE c te γ fun d => ∃ i : Int, d = .int i ∧ i.natAbs.log2 < 1920 ∧ P (.str (toString i))) : wpE c (tCB rStr3 (tCons te tNil)) γ P := fun σ G H s Q q =>
  h σ G H s _ fun x d G1 H1 h1 a1 s1 g1 => by
    obtain ⟨l, rfl, hb, p⟩ := h1
    obtain rfl := a1.int_inv
    exact ⟨l, rfl, hb, q _ _ G1 H1 p (.str _) s1 g1⟩
theorem n_list {P : List PyData → Prop} (h : wpE c te γ fun d => ∃ l, d = .list l ∧ P l) : wpN c (tCB (rList3 c.K) (tCons te tNil)) γ P := fun σ G H s Q q =>
  h σ G H s _ fun x d G1 H1 h1 a1 s1 g1 => by
    obtain ⟨l, rfl, p⟩ := h1
    cases a1 with
    | lst b1 b2 =>
      refine ⟨_, _, rfl, .inl (SqL.of (s1.same _ _ b1)), fun t ht => ?_⟩
      have g2 : ∀ o, Grow NoM G1 H1 G1 (upd H1 t o) := fun o => Grow.newM s1.same ht
      exact q _ _ _ _ _ p (s1.ext (g2 _)) (g1.trans ((g2 _).mono fun _ z => z.elim)) (free_of s1.same ht) upd_same b2 (g1.free ht)
theorem e_tuple (h : wpE c te γ fun d => ∃ l, d = .list l ∧ P (.tuple l)) : wpE c (tCB (rTuple3 c.K) (tCons te tNil)) γ P := fun σ G H s Q q =>
  h σ G H s _ fun x d G1 H1 h1 a1 s1 g1 => by
    obtain ⟨l, rfl, p⟩ := h1
    cases a1 with
    | lst b1 b2 =>
      refine ⟨_, _, rfl, .inl ⟨SqL.of (s1.same _ _ b1), fun t ht => ?_⟩⟩
      have g2 : ∀ o, Grow NoM G1 H1 (upd G1 t o) (upd H1 t o) := fun o => Grow.newF s1.same ht
      exact q _ _ _ _ p (.tup (SqT.of upd_same) (b2.up (g2 _).gg)) (s1.ext (g2 _)) (g1.trans ((g2 _).mono fun _ z => z.elim))
theorem e_tupleOwn {i : Nat} {e : En} {ds : List PyData} (h : γ[i]? = some e) (l : lisOf e = some ds) (p : P (.tuple ds)) : wpE c (tCB (rTuple3 c.K) (tCons (tVar i) tNil)) γ P := fun σ G H s Q q => by
  obtain ⟨r, xs, e1, e3, e4⟩ := lis_at s h l
  refine ⟨_, e1, _, _, rfl, .inl ⟨SqL.of e3, fun t ht => ?_⟩⟩
  have g2 : Grow NoM G H (upd G t (.tup xs)) (upd H t (.tup xs)) := Grow.newF s.same ht
  exact q _ _ _ _ p (.tup (SqT.of upd_same) (e4.up g2.gg)) (s.ext g2) (g2.mono fun _ z => z.elim)

/-! arguments -/
theorem a_nil {P : List Ar → Prop} (p : P []) : wpA c tNil γ P := fun σ G H s Q q => q [] [] G H p .nil s (Grow.refl s.same)
theorem a_d {P : List Ar → Prop} (h : wpE c te γ fun d => wpA c tr γ fun as => P (.d d :: as)) : wpA c (tCons te tr) γ P := fun σ G H s Q q =>
  h σ G H s _ fun x d G1 H1 h1 a1 s1 g1 => h1 σ G1 H1 s1 _ fun xs ds G2 H2 h2 a2 s2 g2 => q _ _ G2 H2 h2 (.cons (show ArAt c.K c.C σ G2 (.d d) x from a1.up g2.gg) a2) s2 (g1.trans g2)
theorem a_f {i : Nat} {F : Fr} {P : List Ar → Prop} (hi : γ[i]? = some (.fr F)) (h : wpA c tr γ fun as => P (.f F :: as)) : wpA c (tCons (tVar i) tr) γ P := fun σ G H s Q q => by
  obtain ⟨v, e, f⟩ := s.ent i _ hi
  exact ⟨v, e, h σ G H s _ fun xs ds G2 H2 h2 a2 s2 g2 => q _ _ G2 H2 h2 (.cons (show ArAt c.K c.C σ G2 (.f F) v from f.up g2.gg) a2) s2 g2⟩
theorem a_m {i : Nat} {e : En} {P : List Ar → Prop} (hi : γ[i]? = some e) (hm : isMut e = true) (h : wpA c tr γ fun as => P (.m i :: as)) : wpA c (tCons (tVar i) tr) γ P := fun σ G H s Q q => by
  obtain ⟨p, xs, e1, _⟩ := (s.ent i _ hi).mut hm
  exact ⟨_, e1, h σ G H s _ fun xs ds G2 H2 h2 a2 s2 g2 => q _ _ G2 H2 h2 (.cons (show ArAt c.K c.C σ G2 (.m i) (.ref p) from e1) a2) s2 g2⟩
end
end W3

/-! ## LayC -/
namespace W3
open PySem L2

/-! ### targets -/
structure Tgt (js : List Nat) (γ : List En) (σ : L2.St) (γ' : List En) (σ' : L2.St) : Prop where
  len : σ'.length = σ.length
  out : ∀ i : Nat, i ∉ js → γ'[i]? = γ[i]? ∧ σ'[i]? = σ[i]?
  inn : ∀ (i : Nat) (e : En), i ∈ js → γ'[i]? = some e → isMut e = false
def wpG (c : Cn) (g : TG) (js : List Nat) (γ : List En) (d : PyData) (P : List En → Prop) : Prop :=
  ∀ (σ : L2.St) (G H : Hp) (v : V), S3 c γ σ G H → Da c.K G v d → ∀ Q : L2.St → Hp → Prop, (∀ (γ' : List En) (σ' : L2.St), P γ' → S3 c γ' σ' G H → Tgt js γ σ γ' σ' → Q σ' H) → g v σ H Q
def wpGs (c : Cn) (g : TGs) (js : List Nat) (γ : List En) (ds : List PyData) (P : List En → Prop) : Prop :=
  ∀ (σ : L2.St) (G H : Hp) (vs : List V), S3 c γ σ G H → DaAll c.K G vs ds → ∀ Q : L2.St → Hp → Prop, (∀ (γ' : List En) (σ' : L2.St), P γ' → S3 c γ' σ' G H → Tgt js γ σ γ' σ' → Q σ' H) → g vs σ H Q
section
variable {c : Cn} {γ : List En} {d : PyData} {P : List En → Prop}
theorem tgt_one {j : Nat} {σ : L2.St} {v : V} : Tgt [j] γ σ (γ.set j (.is d)) (σ.set j (some v)) where
  len := List.length_set
  out := fun i hi => by
    have n : j ≠ i := fun z => hi (by simp [z])
    exact ⟨List.getElem?_set_ne n, List.getElem?_set_ne n⟩
  inn := fun i e hi q => by
    have z : i = j := by simpa using hi
    subst z
    have hlt : i < γ.length := by
      have := (List.getElem?_eq_some_iff.mp q).1
      rwa [List.length_set] at this
    rw [List.getElem?_set_self hlt] at q
    cases q
    rfl
theorem Tgt.trans {js ks : List Nat} {γ γ1 γ2 : List En} {σ σ1 σ2 : L2.St} (a : Tgt js γ σ γ1 σ1) (b : Tgt ks γ1 σ1 γ2 σ2) : Tgt (js ++ ks) γ σ γ2 σ2 where
  len := b.len.trans a.len
  out := fun i hi => by
    have h1 : i ∉ js := fun z => hi (List.mem_append_left _ z)
    have h2 : i ∉ ks := fun z => hi (List.mem_append_right _ z)
    exact ⟨(b.out i h2).1.trans (a.out i h1).1, (b.out i h2).2.trans (a.out i h1).2⟩
  inn := fun i e hi q => by
    by_cases h2 : i ∈ ks
    · exact b.inn i e h2 q
    · have h1 : i ∈ js := (List.mem_append.mp hi).elim id fun z => absurd z h2
      rw [(b.out i h2).1] at q
      exact a.inn i e h1 q
theorem g_name {j : Nat} (p : P (γ.set j (.is d))) : wpG c (gName j) [j] γ d P := fun σ G H v s a Q q =>
  q _ _ p (s.set ⟨v, rfl, a⟩ fun m => by cases m) tgt_one
theorem gs_nil (p : P γ) : wpGs c gNil [] γ [] P := fun σ G H vs s a Q q => by
  cases a
  exact ⟨rfl, q _ _ p s ⟨rfl, fun _ _ => ⟨rfl, rfl⟩, fun _ _ z => nomatch z⟩⟩
theorem gs_cons {g : TG} {gs : TGs} {js ks : List Nat} {ds : List PyData} (h : wpG c g js γ d fun γ1 => wpGs c gs ks γ1 ds P) : wpGs c (gCons g gs) (js ++ ks) γ (d :: ds) P := fun σ G H vs s a Q q => by
  cases a with
  | cons a1 a2 =>
    refine ⟨_, _, rfl, h σ G H _ s a1 _ fun γ1 σ1 h1 s1 t1 => ?_⟩
    exact h1 σ1 G H _ s1 a2 Q fun γ2 σ2 p s2 t2 => q γ2 σ2 p s2 (t1.trans t2)
theorem g_tup {n : Nat} {gs : TGs} {js : List Nat} {ds : List PyData} (hl : ds.length = n) (h : wpGs c gs js γ ds P) : wpG c (gTup c.K n gs) js γ (.tuple ds) P := fun σ G H v s a Q q => by
  cases a with
  | tup a1 a2 => exact ⟨_, _, rfl, sqT_same s.same a1, by rw [a2.len]; exact hl, h σ G H _ s a2 Q q⟩
end

/-! ### statements -/
inductive Rt where
  | d (x : PyData)
  | l (ds : List PyData)
  | f (F : Fr)
def RtAt (c : Cn) (G H : Hp) : Rt → V → Prop
  | .d x, v => Da c.K G v x
  | .l ds, v => ∃ p xs, v = .ref p ∧ G p = none ∧ H p = some (.lst xs) ∧ DaAll c.K G xs ds ∧ c.H0 p = none
  | .f F, v => FrAt c.K c.C G v F
def wpS (c : Cn) (ts : TS) (γ : List En) (N : List En → Prop) (R : Rt → List En → Prop) : Prop :=
  ∀ (σ : L2.St) (G H : Hp), S3 c γ σ G H → ∀ D : Ends, (∀ (γ' : List En) (σ' : L2.St) (G' H' : Hp), N γ' → S3 c γ' σ' G' H' → Same G G' → D.nx σ' H') →
    (∀ (v : V) (r : Rt) (γ' : List En) (σ' : L2.St) (G' H' : Hp), R r γ' → RtAt c G' H' r v → S3 c γ' σ' G' H' → D.rt v H') → ts D σ H
section
variable {c : Cn} {γ : List En} {N : List En → Prop} {R : Rt → List En → Prop} {t u : TS} {te ti : TE} {tt : TT}
theorem wpS_mono {N' : List En → Prop} {R' : Rt → List En → Prop} (h : wpS c t γ N R) (hn : ∀ γ', N γ' → N' γ') (hr : ∀ r γ', R r γ' → R' r γ') : wpS c t γ N' R' := fun σ G H s D qn qr =>
  h σ G H s D (fun γ' σ' G' H' n => qn γ' σ' G' H' (hn _ n)) fun v r γ' σ' G' H' x => qr v r γ' σ' G' H' (hr _ _ x)
theorem s_seq (h : wpS c t γ (fun γ' => wpS c u γ' N R) R) : wpS c (tSeq t u) γ N R := fun σ G H s D qn qr =>
  h σ G H s { D with nx := u D } (fun γ' σ' G' H' n s' k => n σ' G' H' s' D (fun γ2 σ2 G2 H2 n2 s2 k2 => qn γ2 σ2 G2 H2 n2 s2 (k.trans k2)) qr) qr
theorem s_next (n : N γ) : wpS c tNext γ N R := fun σ G H s D qn qr => qn γ σ G H n s (Same.refl G)
theorem s_asg {g : TG} {js : List Nat} (h : wpE c te γ fun d => wpG c g js γ d N) : wpS c (tAsg te g) γ N R := fun σ G H s D qn qr =>
  h σ G H s _ fun v d G1 H1 h1 a1 s1 g1 => h1 σ G1 H1 v s1 a1 D.nx fun γ' σ' n s' _ => qn γ' σ' G1 H1 n s' g1.gg
theorem s_set {j : Nat} (h : wpE c te γ fun d => N (γ.set j (.is d))) : wpS c (tAsg te (gName j)) γ N R := s_asg (js := [j]) fun σ G H s Q q => h σ G H s Q fun v d G1 H1 h1 a1 s1 g1 => q v d G1 H1 (g_name h1) a1 s1 g1
theorem s_setN {j : Nat} (h : wpN c te γ fun ds => N (γ.set j (.own ds))) : wpS c (tAsg te (gName j)) γ N R := fun σ G H s D qn qr =>
  h σ G H s _ fun p xs ds G1 H1 hp s1 g1 e1 e2 a1 h0 => qn _ _ G1 H1 hp (s1.set ⟨p, xs, rfl, e1, e2, a1, s.grow.free h0⟩ fun _ k ek r hk mk er hne z => by
    cases er
    exact s.apart h0 k ek hk mk z) g1.gg
theorem s_if (h : wpT c tt γ fun b => (b = true → wpS c t γ N R) ∧ (b = false → wpS c u γ N R)) : wpS c (tIfS tt t u) γ N R := fun σ G H s D qn qr =>
  h σ G H s _ fun b G1 H1 h1 s1 g1 => by
    cases b with
    | true =>
      show t D σ H1
      exact h1.1 rfl σ G1 H1 s1 D (fun γ2 σ2 G2 H2 n2 s2 k2 => qn γ2 σ2 G2 H2 n2 s2 (g1.gg.trans k2)) qr
    | false =>
      show u D σ H1
      exact h1.2 rfl σ G1 H1 s1 D (fun γ2 σ2 G2 H2 n2 s2 k2 => qn γ2 σ2 G2 H2 n2 s2 (g1.gg.trans k2)) qr
theorem s_ret (h : wpE c te γ fun d => R (.d d) γ) : wpS c (tRet te) γ N R := fun σ G H s D qn qr =>
  h σ G H s _ fun v d G1 H1 h1 a1 s1 g1 => qr v (.d d) γ σ G1 H1 h1 a1 s1
theorem s_retN (h : wpN c te γ fun ds => R (.l ds) γ) : wpS c (tRet te) γ N R := fun σ G H s D qn qr =>
  h σ G H s _ fun p xs ds G1 H1 hp s1 g1 e1 e2 a1 h0 => qr _ (.l ds) γ σ G1 H1 hp ⟨p, xs, rfl, e1, e2, a1, s.grow.free h0⟩ s1
theorem s_retOwn {i : Nat} {ds : List PyData} (h : γ[i]? = some (.own ds)) (r : R (.l ds) γ) : wpS c (tRet (tVar i)) γ N R := fun σ G H s D qn qr => by
  obtain ⟨p, xs, e1, e2, e3, e4, e5⟩ := s.ent i _ h
  exact ⟨_, e1, qr _ (.l ds) γ σ G H r ⟨p, xs, rfl, e2, e3, e4, e5⟩ s⟩
theorem s_frz (i : Nat) {ds : List PyData} (h : γ[i]? = some (.own ds)) (k : wpS c t (γ.set i (.is (.list ds))) N R) : wpS c t γ N R := fun σ G H s D qn qr => by
  obtain ⟨G', sm, s'⟩ := s.frz h
  exact k σ G' H s' D (fun γ2 σ2 G2 H2 n2 s2 k2 => qn γ2 σ2 G2 H2 n2 s2 (sm.trans k2)) qr
theorem s_drop (h : wpE c te γ fun _ => N γ) : wpS c (tDrop te) γ N R := fun σ G H s D qn qr =>
  h σ G H s _ fun v d G1 H1 h1 a1 s1 g1 => qn γ σ G1 H1 h1 s1 g1.gg
/-- append to a list of ours -/
theorem s_app {i : Nat} {ds : List PyData} (h : γ[i]? = some (.own ds)) (hl : ds.length < 1000000) (k : wpE c te γ fun d => N (γ.set i (.own (ds ++ [d])))) : wpS c (tDrop (tBM c.K "list" rAppend (tVar i) (tCons te tNil))) γ N R := fun σ G H s D qn qr => by
  obtain ⟨p, xs, e1, e2, e3, e4, e5⟩ := s.ent i _ h
  refine ⟨_, e1, .inl ⟨rfl, _, SqL.of e3⟩, k σ G H s _ fun v d G1 H1 h1 a1 s1 g1 => ?_⟩
  obtain ⟨p', xs', e1', e2', e3', e4', e5'⟩ := s1.ent i _ h
  rw [e1] at e1'
  cases e1'
  exact ⟨p, xs', v, rfl, rfl, e3', by rw [e4'.len]; exact small_lt hl, qn _ _ G1 _ h1 (s1.putOwn h e1 (e4'.append (.one a1))) g1.gg⟩
theorem s_appPar {i : Nat} {p : Addr} {ds : List PyData} (h : γ[i]? = some (.par true p ds)) (hl : ds.length < 1000000) (k : wpE c te γ fun d => N (γ.set i (.par true p (ds ++ [d])))) : wpS c (tDrop (tBM c.K "list" rAppend (tVar i) (tCons te tNil))) γ N R := fun σ G H s D qn qr => by
  obtain ⟨xs, e1, e2, e3, e4, e5⟩ := s.ent i _ h
  refine ⟨_, e1, .inl ⟨rfl, _, SqL.of e3⟩, k σ G H s _ fun v d G1 H1 h1 a1 s1 g1 => ?_⟩
  obtain ⟨xs', e1', e2', e3', e4', e5'⟩ := s1.ent i _ h
  exact ⟨p, xs', v, rfl, rfl, e3', by rw [e4'.len]; exact small_lt hl, qn _ _ G1 _ h1 (s1.putPar h (e4'.append (.one a1))) g1.gg⟩
/-- an item of a list of ours -/
theorem s_item {i : Nat} {ds : List PyData} (h : γ[i]? = some (.own ds)) (k : wpE c te γ fun d => wpE c ti γ fun dj => ∃ j : Int, dj = .int j ∧ 0 ≤ j ∧ j < ds.length ∧ N (γ.set i (.own (ds.set j.toNat d)))) : wpS c (tAsg te (gSub (tVar i) ti rSetL)) γ N R := fun σ G H s D qn qr =>
  k σ G H s _ fun v d G1 H1 h1 a1 s1 g1 => by
    obtain ⟨p, xs, e1, e2, e3, e4, e5⟩ := s1.ent i _ h
    refine ⟨_, e1, h1 σ G1 H1 s1 _ fun w dj G2 H2 h2 a2 s2 g2 => ?_⟩
    obtain ⟨j, rfl, j0, j1, n⟩ := h2
    obtain rfl := a2.int_inv
    obtain ⟨p', xs', e1', e2', e3', e4', e5'⟩ := s2.ent i _ h
    rw [e1] at e1'
    cases e1'
    refine ⟨p, xs', j, j.toNat, rfl, rfl, e3', ?_, qn _ _ G2 _ n (s2.putOwn h e1 (.set (a1.up g2.gg) _ e4')) (g1.gg.trans g2.gg)⟩
    unfold ixN
    rw [if_pos j0, if_pos (by rw [e4'.len]; exact j1)]
end

/-! ### what is walked -/
structure Wk (K : Fg) (J : It) (n : Nat) (G1 : Hp) (Y : Nat → PyData) : Prop where
  goes : ∀ (i : Nat) (G H : Hp), i < n → Same G1 G → Same G H → J.go i H
  stops : ∀ (G H : Hp), Same G1 G → Same G H → J.stop n H
  yields : ∀ (i : Nat) (G H : Hp) (x : V) (H' : Hp), i < n → Same G1 G → Same G H → J.yld i H x H' → ∃ G', Grow NoM G H G' H' ∧ Da K G' x (Y i)
def wpI (c : Cn) (wi : TI) (γ : List En) (P : Nat → (Nat → PyData) → Prop) : Prop :=
  ∀ (σ : L2.St) (G H : Hp), S3 c γ σ G H → ∀ R : It → Hp → Prop, (∀ (J : It) (n : Nat) (Y : Nat → PyData) (G' H' : Hp), P n Y → Wk c.K J n G' Y → S3 c γ σ G' H' → Grow (MutA γ) G H G' H' → R J H') → wi σ H R
section
variable {c : Cn} {γ : List En} {P : Nat → (Nat → PyData) → Prop} {ta : TA} {tl : TE}
theorem wk_range {K : Fg} {lo : Int} {n : Nat} {G : Hp} : Wk K (Itr lo n) n G fun i => .int (lo + i) where
  goes := fun i G H hi _ _ => hi
  stops := fun G H _ _ => Nat.le_refl _
  yields := fun i G H x H' hi _ s y => by
    obtain ⟨rfl, rfl⟩ := y
    exact ⟨G, Grow.refl s, .int _⟩
theorem wk_list {K : Fg} {a : Addr} {xs : List V} {l : List PyData} {G1 : Hp} (h : G1 a = some (.lst xs)) (hd : DaAll K G1 xs l) : Wk K (Itl K a) l.length G1 fun i => l.getD i .none where
  goes := fun i G H hi s1 s => by
    have hx : i < xs.length := by rw [hd.len]; exact hi
    exact ⟨xs, xs[i], SqL.of (s _ _ (s1 _ _ h)), List.getElem?_eq_getElem hx⟩
  stops := fun G H s1 s => ⟨xs, SqL.of (s _ _ (s1 _ _ h)), by rw [hd.len]; exact Nat.le_refl _⟩
  yields := fun i G H x H' hi s1 s y => by
    obtain ⟨rfl, y⟩ := y
    have e := y xs (SqL.of (s _ _ (s1 _ _ h)))
    obtain ⟨d, e1, e2⟩ := hd.get' e
    refine ⟨G, Grow.refl s, ?_⟩
    show Da K G x (l.getD i .none)
    rw [List.getD_eq_getElem?_getD, e1]
    exact e2.up s1
theorem wk_enum {K : Fg} {a : Addr} {xs : List V} {l : List PyData} {G1 : Hp} (h : G1 a = some (.lst xs)) (hd : DaAll K G1 xs l) : Wk K (Ite K a) l.length G1 fun i => .tuple [.int (i : Nat), l.getD i .none] where
  goes := fun i G H hi s1 s => by
    have hx : i < xs.length := by rw [hd.len]; exact hi
    exact ⟨xs, xs[i], SqL.of (s _ _ (s1 _ _ h)), List.getElem?_eq_getElem hx⟩
  stops := fun G H s1 s => ⟨xs, SqL.of (s _ _ (s1 _ _ h)), by rw [hd.len]; exact Nat.le_refl _⟩
  yields := fun i G H v H' hi s1 s y => by
    obtain ⟨T, x, rfl, hT, rfl, y⟩ := y
    have e := y xs (SqL.of (s _ _ (s1 _ _ h)))
    obtain ⟨d, e1, e2⟩ := hd.get' e
    have g : Grow NoM G H (upd G T (.tup [.int (i : Nat), x])) (upd H T (.tup [.int (i : Nat), x])) := Grow.newF s hT
    refine ⟨_, g, .tup (SqT.of upd_same) (.cons (.int _) (.one ?_))⟩
    rw [List.getD_eq_getElem?_getD, e1]
    exact e2.up (s1.trans g.gg)
theorem i_range1 (h : wpD c ta γ fun ds => ∃ j : Int, ds = [.int j] ∧ -(2 ^ 62) ≤ j ∧ j < 2 ^ 62 ∧ P j.toNat fun i => .int (0 + (i : Int))) : wpI c (iRng1 ta) γ P := fun σ G H s R q =>
  h σ G H s _ fun vs ds G1 H1 h1 a1 s1 g1 => by
    obtain ⟨j, rfl, b1, b2, p⟩ := h1
    cases a1 with
    | cons k1 k2 =>
      cases k2
      obtain rfl := k1.int_inv
      exact ⟨j, rfl, b1, b2, q _ _ _ G1 H1 p wk_range s1 g1⟩
theorem i_range2 (h : wpD c ta γ fun ds => ∃ i j : Int, ds = [.int i, .int j] ∧ (-(2 ^ 62) ≤ i ∧ i < 2 ^ 62 ∧ -(2 ^ 62) ≤ j ∧ j < 2 ^ 62) ∧ P (j - i).toNat fun k => .int (i + (k : Int))) : wpI c (iRng2 ta) γ P := fun σ G H s R q =>
  h σ G H s _ fun vs ds G1 H1 h1 a1 s1 g1 => by
    obtain ⟨i, j, rfl, b, p⟩ := h1
    cases a1 with
    | cons k1 k2 =>
      cases k2 with
      | cons k2 k3 =>
        cases k3
        obtain rfl := k1.int_inv
        obtain rfl := k2.int_inv
        exact ⟨i, j, rfl, b, q _ _ _ G1 H1 p wk_range s1 g1⟩
theorem i_list (h : wpE c tl γ fun d => ∃ l, d = .list l ∧ P l.length fun i => l.getD i .none) : wpI c (iList c.K tl) γ P := fun σ G H s R q =>
  h σ G H s _ fun v d G1 H1 h1 a1 s1 g1 => by
    obtain ⟨l, rfl, p⟩ := h1
    cases a1 with
    | lst b1 b2 => exact ⟨_, rfl, ⟨_, SqL.of (s1.same _ _ b1)⟩, q _ _ _ G1 H1 p (wk_list b1 b2) s1 g1⟩
theorem i_enum (h : wpD c ta γ fun ds => ∃ l, ds = [.list l] ∧ P l.length fun i => .tuple [.int (i : Nat), l.getD i .none]) : wpI c (iEnum c.K ta) γ P := fun σ G H s R q =>
  h σ G H s _ fun vs ds G1 H1 h1 a1 s1 g1 => by
    obtain ⟨l, rfl, p⟩ := h1
    cases a1 with
    | cons k1 k2 =>
      cases k2
      cases k1 with
      | lst b1 b2 => exact ⟨_, _, rfl, SqL.of (s1.same _ _ b1), q _ _ _ G1 H1 p (wk_enum b1 b2) s1 g1⟩
end

/-! ### for -/
section
variable {c : Cn} {γ : List En} {N : List En → Prop} {R : Rt → List En → Prop} {tb : TS} {wi : TI} {g : TG} {js : List Nat}
theorem s_for (h : wpI c wi γ fun n Y => ∃ Iv : Nat → List En → Prop, Iv 0 γ ∧ (∀ (i : Nat) (γ' : List En), i < n → Iv i γ' → wpG c g js γ' (Y i) fun γ2 => wpS c tb γ2 (Iv (i + 1)) R) ∧ ∀ γ', Iv n γ' → N γ') : wpS c (tFor wi g tb) γ N R := fun σ G H s D qn qr =>
  h σ G H s _ fun J n Y G1 H1 h1 wk s1 g1 => by
    obtain ⟨Iv, i0, turn, fin⟩ := h1
    refine ⟨fun i m σ' H' => m = n - i ∧ i ≤ n ∧ ∃ γ' G', Iv i γ' ∧ S3 c γ' σ' G' H' ∧ Same G1 G', ⟨n, by simp, Nat.zero_le _, γ, G1, i0, s1, Same.refl _⟩, ?_⟩
    rintro i m σ2 H2 ⟨rfl, hi, γ2, G2, iv, s2, sm⟩
    by_cases hlt : i < n
    · refine .inr ⟨wk.goes i G2 H2 hlt sm s2.same, fun σ' H' => ∃ γ' G', Iv (i + 1) γ' ∧ S3 c γ' σ' G' H' ∧ Same G1 G', fun σ' H' ⟨γ', G', a, b, d⟩ => ⟨n - (i + 1), by omega, rfl, hlt, γ', G', a, b, d⟩, fun x H3 y => ?_⟩
      obtain ⟨G3, g3, a3⟩ := wk.yields i G2 H2 x H3 hlt sm s2.same y
      refine turn i γ2 hlt iv σ2 G3 H3 x (s2.ext g3) a3 _ fun γ4 σ4 h4 s4 _ => ?_
      exact h4 σ4 G3 H3 s4 _ (fun γ5 σ5 G5 H5 n5 s5 k5 => ⟨γ5, G5, n5, s5, (sm.trans g3.gg).trans k5⟩) qr
    · have e : i = n := by omega
      subst e
      exact .inl ⟨wk.stops G2 H2 sm s2.same, qn γ2 σ2 G2 H2 (fin γ2 iv) s2 (g1.gg.trans sm)⟩
end
end W3

/-! ## LayD -/
namespace W3
open PySem L2

/-! ### comprehensions -/
theorem wipe_in {i : Nat} : ∀ {vs : List Nat} {σ : L2.St}, i ∈ vs → (wipe σ vs)[i]? = if i < σ.length then some none else none
  | [], _, h => nomatch h
  | v :: vs, σ, h => by
    show ((wipe σ vs).set v none)[i]? = _
    by_cases hv : v = i
    · subst hv
      by_cases hl : v < σ.length
      · rw [if_pos hl, List.getElem?_set_self (by rw [wipe_length]; exact hl)]
      · rw [if_neg hl, List.getElem?_eq_none (by rw [List.length_set, wipe_length]; omega)]
    · rw [List.getElem?_set_ne hv]
      exact wipe_in ((List.mem_cons.mp h).elim (fun z => absurd z.symm hv) id)
theorem wipe_eq {σ σ2 : L2.St} {vs : List Nat} (hl : σ2.length = σ.length) (h : ∀ i : Nat, i ∉ vs → σ2[i]? = (wipe σ vs)[i]?) : wipe σ2 vs = wipe σ vs := by
  apply List.ext_getElem?
  intro i
  by_cases hi : i ∈ vs
  · rw [wipe_in hi, wipe_in hi, hl]
  · rw [wipe_out hi, h i hi]
theorem Grow.writeNew {M : Addr → Prop} {G1 H1 G H : Hp} {D : Addr} {o : HO} (g : Grow M G1 H1 G H) (h1 : H1 D = none) (h : G D = none) : Grow M G1 H1 G (upd H D o) where
  gg := g.gg
  gh := fun b u e => by rw [upd_ne (ne_of_none e h)]; exact g.gh b u e
  keep := fun a u x e => by
    obtain ⟨q1, q2, o', q3⟩ := g.keep a u x e
    have hn : a ≠ D := ne_of_none e h1
    exact ⟨q1, fun m => by rw [upd_ne hn]; exact q2 m, o', by rw [upd_ne hn]; exact q3⟩
theorem S3.writeNew {c : Cn} {γ : List En} {σ : L2.St} {G H : Hp} {D : Addr} {o : HO} (s : S3 c γ σ G H) (h : G D = none) (h0 : c.H0 D = none) (ha : ∀ (j : Nat) (ej : En), γ[j]? = some ej → isMut ej = true → σ[j]? ≠ some (some (.ref D))) : S3 c γ σ G (upd H D o) :=
  s.step (M := fun a => a = D) (Grow.write s.same h rfl) (fun a z => .inr (z ▸ h0)) rfl fun i e q => ⟨e, q, id, .inl ⟨rfl, fun p m r z => ha i e q m (z ▸ r)⟩⟩
section
variable {c : Cn} {γ : List En} {te : TE} {tt : TT} {wi : TI} {g : TG} {js vs : List Nat} {P : List PyData → Prop}
theorem n_lc (hvs : ∀ v ∈ vs, γ[v]? = some .no) (hjs : ∀ j ∈ js, j ∈ vs)
    (h : wpI c wi γ fun n Y => n < 1000000 ∧ ∃ Iv : Nat → List PyData → Prop, Iv 0 [] ∧
      (∀ (i : Nat) (acc : List PyData), i < n → Iv i acc → acc.length ≤ i → wpG c g js γ (Y i) fun γ2 => wpT c tt γ2 fun b => (b = true → wpE c te γ2 fun d => Iv (i + 1) (acc ++ [d])) ∧ (b = false → Iv (i + 1) acc)) ∧
      ∀ acc, Iv n acc → acc.length ≤ n → P acc) : wpN c (tLc wi g tt te vs) γ P := fun σ G H s Q q =>
  h σ G H s _ fun J n Y G1 H1 h1 wk s1 g1 => by
    obtain ⟨hn, Iv, i0, turn, fin⟩ := h1
    intro D hD
    have hD0 : c.H0 D = none := s1.grow.free hD
    have hap := s1.apart hD
    have hnm := s1.notMut hD
    refine ⟨fun i m H' => m = n - i ∧ i ≤ n ∧ ∃ G' acc xs, S3 c γ σ G' H' ∧ Grow (MutA γ) G1 H1 G' H' ∧ G' D = none ∧ H' D = some (.lst xs) ∧ DaAll c.K G' xs acc ∧ Iv i acc ∧ acc.length ≤ i,
      ⟨n, by simp, Nat.zero_le _, G1, [], [], s1.ext (Grow.newM s1.same hD), Grow.newM s1.same hD, free_of s1.same hD, upd_same, .nil, i0, Nat.le_refl _⟩, ?_⟩
    rintro i m H2 ⟨rfl, hi, G2, acc, xs, s2, g2, d1, d2, d3, iv, al⟩
    by_cases hlt : i < n
    · refine .inr ⟨wk.goes i G2 H2 hlt g2.gg s2.same, fun H' => ∃ G' acc xs, S3 c γ σ G' H' ∧ Grow (MutA γ) G1 H1 G' H' ∧ G' D = none ∧ H' D = some (.lst xs) ∧ DaAll c.K G' xs acc ∧ Iv (i + 1) acc ∧ acc.length ≤ i + 1,
        fun H' ⟨G', acc', xs', a⟩ => ⟨n - (i + 1), by omega, rfl, hlt, G', acc', xs', a⟩, fun x H3 y => ?_⟩
      obtain ⟨G3, g3, a3⟩ := wk.yields i G2 H2 x H3 hlt g2.gg s2.same y
      have s3 := s2.ext g3
      have s3w : S3 c γ (wipe σ vs) G3 H3 := s3.less (by rw [wipe_length]; exact s3.len) fun k e hk => by
        by_cases hkv : k ∈ vs
        · have := hvs k hkv
          rw [hk] at this
          exact .inl (Option.some.inj this)
        · exact .inr ⟨hk, (wipe_out hkv).symm⟩
      refine turn i acc hlt iv al (wipe σ vs) G3 H3 x s3w a3 _ fun γ4 σ4 h4 s4 tg => ?_
      have w4 : wipe σ4 vs = wipe σ vs := wipe_eq (by rw [tg.len, wipe_length]) fun k hk => (tg.out k fun z => hk (hjs k z)).2
      refine ⟨w4, h4 σ4 G3 H3 s4 _ fun b G5 H5 h5 s5 g5 => ?_⟩
      have nm4 : ¬ MutA γ4 D := fun ⟨k, hk⟩ => by
        by_cases hkj : k ∈ js
        · have := tg.inn k _ hkj hk
          cases this
        · rw [(tg.out k hkj).1] at hk
          exact hnm ⟨k, hk⟩
      have mm : ∀ a, MutA γ4 a → MutA γ a := fun a ⟨k, hk⟩ => by
        by_cases hkj : k ∈ js
        · have := tg.inn k _ hkj hk
          cases this
        · rw [(tg.out k hkj).1] at hk
          exact ⟨k, hk⟩
      have back : ∀ {G' H' : Hp}, S3 c γ4 σ4 G' H' → S3 c γ σ G' H' := fun {G' H'} s' => s'.less s1.len fun k e hk => by
        by_cases hkv : k ∈ vs
        · have := hvs k hkv
          rw [hk] at this
          exact .inl (Option.some.inj this)
        · have hkj : k ∉ js := fun z => hkv (hjs k z)
          exact .inr ⟨by rw [(tg.out k hkj).1]; exact hk, by rw [(tg.out k hkj).2, wipe_out hkv]⟩
      have g3' : Grow (MutA γ) G1 H1 G3 H3 := g2.trans (g3.mono fun _ z => z.elim)
      have D3 := g3.keep D _ d1 d2
      have d3D : H3 D = some (.lst xs) := D3.2.1 id
      have D5 := g5.keep D _ D3.1 d3D
      have d5D : H5 D = some (.lst xs) := D5.2.1 nm4
      cases b with
      | false =>
        show ∃ G' acc xs, _
        exact ⟨G5, acc, xs, back s5, g3'.trans (g5.mono mm), D5.1, d5D, (d3.up g3.gg).up g5.gg, h5.2 rfl, by omega⟩
      | true =>
        show te σ4 H5 _
        refine h5.1 rfl σ4 G5 H5 s5 _ fun v d G6 H6 h6 a6 s6 g6 => ?_
        have D6 := g6.keep D _ D5.1 d5D
        have d6D : H6 D = some (.lst xs) := D6.2.1 nm4
        have a6' : DaAll c.K G6 (xs ++ [v]) (acc ++ [d]) := (((d3.up g3.gg).up g5.gg).up g6.gg).append (.one a6)
        exact ⟨xs, d6D, by rw [d3.len]; exact small_lt (by omega), G6, acc ++ [d], xs ++ [v], (back s6).writeNew D6.1 hD0 hap, ((g3'.trans (g5.mono mm)).trans (g6.mono mm)).writeNew hD D6.1, D6.1, upd_same, a6', h6, by rw [List.length_append, List.length_singleton]; omega⟩
    · have e : i = n := by omega
      subst e
      exact .inl ⟨wk.stops G2 H2 g2.gg s2.same, q D xs acc G2 H2 (fin acc iv al) s2 (g1.trans g2) d1 d2 d3 (g1.free hD)⟩
end
theorem t_yes {c : Cn} {γ : List En} {P : Bool → Prop} (p : P true) : wpT c tYes γ P := fun σ G H s Q q => q true G H p s (Grow.refl s.same)

/-! ### promises -/
def notM : Ar → Bool
  | .m _ => false
  | _ => true
theorem ArsAt.plain {K : Fg} {C : Addr} {σ σ' : L2.St} {G : Hp} : ∀ {as : List Ar} {vs : List V}, as.all notM = true → ArsAt K C σ G as vs → ArsAt K C σ' G as vs
  | [], _, _, q => by cases q; exact .nil
  | a :: as, _, h, q => by
    cases q with
    | cons h1 t =>
      rw [List.all_cons, Bool.and_eq_true] at h
      refine .cons ?_ (ArsAt.plain h.2 t)
      cases a with
      | d x => exact h1
      | f F => exact h1
      | m i => cases h.1
def enOf : Ar → En
  | .d x => .is x
  | .f F => .fr F
  | .m _ => .no
/-- data in, data back -/
def spP (K : Fg) (C : Addr) {ι : Type} (args : ι → List Ar) (pre : ι → Prop) (res : ι → PyData → Prop) : Sp := fun vs H Q _ =>
  ∃ (G : Hp) (x : ι), Same G H ∧ ArsAt K C [] G (args x) vs ∧ pre x ∧ ∀ v d G' H', res x d → Grow NoM G H G' H' → Da K G' v d → Q v H'
/-- data in, a new list back -/
def spL (K : Fg) (C : Addr) {ι : Type} (args : ι → List Ar) (pre : ι → Prop) (res : ι → List PyData → Prop) : Sp := fun vs H Q _ =>
  ∃ (G : Hp) (x : ι), Same G H ∧ ArsAt K C [] G (args x) vs ∧ pre x ∧ ∀ p xs ds G' H', res x ds → Grow NoM G H G' H' → G' p = none → H p = none → H' p = some (.lst xs) → DaAll K G' xs ds → Q (.ref p) H'
section
variable {c : Cn} {γ : List En} {ta : TA} {ι : Type} {args : ι → List Ar} {pre : ι → Prop}
theorem e_callP {res : ι → PyData → Prop} {P : PyData → Prop} (h : wpA c ta γ fun as => ∃ x, as = args x ∧ (args x).all notM = true ∧ pre x ∧ ∀ d, res x d → P d) : wpE c (tCall (spP c.K c.C args pre res) [] E0 ta) γ P := fun σ G H s Q q =>
  h σ G H s _ fun vs as G1 H1 h1 a1 s1 g1 => by
    obtain ⟨x, rfl, hm, hp, k⟩ := h1
    rw [List.append_nil]
    exact ⟨G1, x, s1.same, a1.plain hm, hp, fun v d G' H' r g a => q v d G' H' (k d r) a (s1.ext g) (g1.trans (g.mono fun _ z => z.elim))⟩
theorem n_callL {res : ι → List PyData → Prop} {P : List PyData → Prop} (h : wpA c ta γ fun as => ∃ x, as = args x ∧ (args x).all notM = true ∧ pre x ∧ ∀ d, res x d → P d) : wpN c (tCall (spL c.K c.C args pre res) [] E0 ta) γ P := fun σ G H s Q q =>
  h σ G H s _ fun vs as G1 H1 h1 a1 s1 g1 => by
    obtain ⟨x, rfl, hm, hp, k⟩ := h1
    rw [List.append_nil]
    exact ⟨G1, x, s1.same, a1.plain hm, hp, fun p xs ds G' H' r g e1 e2 e3 a => q p xs ds G' H' (k ds r) (s1.ext g) (g1.trans (g.mono fun _ z => z.elim)) e1 e3 a (g1.free e2)⟩
/-- a method of the frame, its argument data -/
theorem e_methP {m : Str} {i : Nat} {F : Fr} {res : ι → PyData → Prop} {P : PyData → Prop} (hi : γ[i]? = some (.fr F)) (hm : m = "clocks_of" ∨ m = "link_part" ∨ m = "source_part")
    (h : wpA c ta γ fun as => ∃ x, .f F :: as = args x ∧ (args x).all notM = true ∧ pre x ∧ ∀ d, res x d → P d) : wpE c (tMeth c.C m (spP c.K c.C args pre res) [] E0 (tVar i) ta) γ P := fun σ G H s Q q => by
  obtain ⟨v, e, f⟩ := s.ent i _ hi
  obtain ⟨a, dx, fs, vc, vl, vs, h1, h2, h3, h4, h5, h6, h7, h8, h9, h10, h11⟩ := id f.ex
  subst h1
  refine ⟨_, e, a, dx, fs, rfl, s.same _ _ h2, by rcases hm with z | z | z <;> subst z <;> assumption, h σ G H s _ fun vs as G1 H1 k1 a1 s1 g1 => ?_⟩
  obtain ⟨x, ea, hma, hp, k⟩ := k1
  rw [List.append_nil]
  exact ⟨G1, x, s1.same, by rw [← ea]; exact (ArsAt.cons (show ArAt c.K c.C σ G1 (.f F) (.ref a) from f.up g1.gg) a1).plain (by rw [ea]; exact hma), hp, fun v d G' H' r g a => q v d G' H' (k d r) a (s1.ext g) (g1.trans (g.mono fun _ z => z.elim))⟩
theorem n_methL {m : Str} {i : Nat} {F : Fr} {res : ι → List PyData → Prop} {P : List PyData → Prop} (hi : γ[i]? = some (.fr F)) (hm : m = "clocks_of" ∨ m = "link_part" ∨ m = "source_part")
    (h : wpA c ta γ fun as => ∃ x, .f F :: as = args x ∧ (args x).all notM = true ∧ pre x ∧ ∀ d, res x d → P d) : wpN c (tMeth c.C m (spL c.K c.C args pre res) [] E0 (tVar i) ta) γ P := fun σ G H s Q q => by
  obtain ⟨v, e, f⟩ := s.ent i _ hi
  obtain ⟨a, dx, fs, vc, vl, vs, h1, h2, h3, h4, h5, h6, h7, h8, h9, h10, h11⟩ := id f.ex
  subst h1
  refine ⟨_, e, a, dx, fs, rfl, s.same _ _ h2, by rcases hm with z | z | z <;> subst z <;> assumption, h σ G H s _ fun vs as G1 H1 k1 a1 s1 g1 => ?_⟩
  obtain ⟨x, ea, hma, hp, k⟩ := k1
  rw [List.append_nil]
  exact ⟨G1, x, s1.same, by rw [← ea]; exact (ArsAt.cons (show ArAt c.K c.C σ G1 (.f F) (.ref a) from f.up g1.gg) a1).plain (by rw [ea]; exact hma), hp, fun p xs ds G' H' r g e1 e2 e3 a => q p xs ds G' H' (k ds r) (s1.ext g) (g1.trans (g.mono fun _ z => z.elim)) e1 e3 a (g1.free e2)⟩
end

/-! ### a def keeps its promise -/
/-- the entry's slots -/
theorem start_get {N : List Str} {vs : List V} {i : Nat} {v : V} (h : vs[i]? = some v) : (L2.start N vs)[i]? = some (some v) := by
  unfold L2.start
  rw [List.getElem?_append_left (by rw [List.length_map]; exact (List.getElem?_eq_some_iff.mp h).1), List.getElem?_map, h]
  rfl
theorem ArsAt.get {K : Fg} {C : Addr} {σ : L2.St} {G : Hp} : ∀ {as : List Ar} {vs : List V} {i : Nat} {a : Ar}, ArsAt K C σ G as vs → as[i]? = some a → ∃ v, vs[i]? = some v ∧ ArAt K C σ G a v
  | _, _, _, _, .nil, h => by simp at h
  | _, _, 0, _, .cons h1 t, h => by
    have e := Option.some.inj h
    subst e
    exact ⟨_, rfl, h1⟩
  | _, _, i + 1, _, .cons h1 t, h => by
    obtain ⟨v, e1, e2⟩ := ArsAt.get (i := i) t (by simpa using h)
    exact ⟨v, by simpa using e1, e2⟩
def gam (as : List Ar) (n : Nat) : List En := as.map enOf ++ List.replicate n .no
theorem S3.init {K : Fg} {C : Addr} {σ : L2.St} {N : List Str} {G H : Hp} {as : List Ar} {vs : List V} {M : Addr → Prop} {n : Nat} (h : ArsAt K C σ G as vs) (sm : Same G H) (hn : N.length = as.length + n) : S3 ⟨K, C, M, G, H⟩ (gam as n) (L2.start N vs) G H where
  grow := Grow.refl sm
  len := by
    unfold L2.start gam
    rw [List.length_append, List.length_append, List.length_map, List.length_map, List.length_replicate, List.length_replicate, h.len]
    omega
  ent := fun i e q => by
    unfold gam at q
    by_cases hi : i < as.length
    · rw [List.getElem?_append_left (by rw [List.length_map]; exact hi), List.getElem?_map, List.getElem?_eq_getElem hi] at q
      have e1 : enOf as[i] = e := Option.some.inj q
      obtain ⟨v, e2, e3⟩ := h.get (List.getElem?_eq_getElem hi)
      rw [start_get e2]
      cases ea : as[i] with
      | d x => rw [ea] at e1 e3; subst e1; exact ⟨v, rfl, e3⟩
      | f F => rw [ea] at e1 e3; subst e1; exact ⟨v, rfl, e3⟩
      | m j => rw [ea] at e1; subst e1; trivial
    · rw [List.getElem?_append_right (by rw [List.length_map]; omega), List.getElem?_replicate] at q
      split at q
      · cases q; trivial
      · cases q
  dis := fun i j ei ej p q1 q2 m1 m2 r1 r2 => by
    exfalso
    unfold gam at q1
    by_cases hi : i < as.length
    · rw [List.getElem?_append_left (by rw [List.length_map]; exact hi), List.getElem?_map, List.getElem?_eq_getElem hi] at q1
      have e1 : enOf as[i] = ei := Option.some.inj q1
      cases ea : as[i] <;> rw [ea] at e1 <;> subst e1 <;> cases m1
    · rw [List.getElem?_append_right (by rw [List.length_map]; omega), List.getElem?_replicate] at q1
      split at q1
      · cases q1; cases m1
      · cases q1
section
variable {P : Program} {w : World} {K : Fg} {mg : Str → Option Value} {base : Heap}
/-- the derivation of a def's body, in every context of its own -/
def Der (P : Program) (w : World) (K : Fg) (mg : Str → Option Value) (base : Heap) (N : List Str) (qual : Str) (st : Stmt) (f : Addr) (k : Nat) (t : TS) : Prop :=
  ∀ (cdv : Value) (A : Around) (outer : List Env) (s : Shared) (H : Hp) (E : XK), Room k (A.deeper (PyProof.Rows.envOfC qual (defScope st) s.heap.objs.size f cdv)) → PSs (cxOf CX0 P w K mg base N qual (defScope st) f cdv A outer s H E).nox (defBody st) t
theorem fnP {x qual : Str} {st : Stmt} {f : Addr} {fd : FuncData} {N ps : List Str} {k n : Nat} {C : Addr} {ι : Type} {args : ι → List Ar} {pre : ι → Prop} {res : ι → PyData → Prop} {t : TS} (F : Fun K x qual st f fd) (S : FnScope N ps (defScope st))
    (hl : ∀ x, (args x).length = ps.length) (hn : N.length = ps.length + n) (der : Der P w K mg base N qual st f k t)
    (wp : ∀ (c : Cn) (x : ι), c.K = K → c.C = C → pre x → wpS c t (gam (args x) n) (fun _ => False) fun r _ => ∃ d, r = .d d ∧ res x d) : FnOk P w K mg base CX0 (k + 1) f fd ps (spP K C args pre res) := by
  refine F.ok S (fun vs H Q E h => ?_) (fun cdv A outer s H vs Q E hr h => ⟨t, der cdv A outer s H E hr, ?_⟩)
  · obtain ⟨G, x, _, h2, _⟩ := h
    rw [h2.len, hl]
  · obtain ⟨G, x, sm, ha, hp, q⟩ := h
    exact wp ⟨K, C, NoM, G, H⟩ x rfl rfl hp _ G H (S3.init ha sm (by rw [hl]; exact hn)) _ (fun _ _ _ _ z => z.elim) fun v r γ' σ' G' H' ⟨d, e, hr⟩ ra s' => by
      subst e
      exact q v d G' H' hr s'.grow ra
theorem fnL {x qual : Str} {st : Stmt} {f : Addr} {fd : FuncData} {N ps : List Str} {k n : Nat} {C : Addr} {ι : Type} {args : ι → List Ar} {pre : ι → Prop} {res : ι → List PyData → Prop} {t : TS} (F : Fun K x qual st f fd) (S : FnScope N ps (defScope st))
    (hl : ∀ x, (args x).length = ps.length) (hn : N.length = ps.length + n) (der : Der P w K mg base N qual st f k t)
    (wp : ∀ (c : Cn) (x : ι), c.K = K → c.C = C → pre x → wpS c t (gam (args x) n) (fun _ => False) fun r _ => ∃ ds, r = .l ds ∧ res x ds) : FnOk P w K mg base CX0 (k + 1) f fd ps (spL K C args pre res) := by
  refine F.ok S (fun vs H Q E h => ?_) (fun cdv A outer s H vs Q E hr h => ⟨t, der cdv A outer s H E hr, ?_⟩)
  · obtain ⟨G, x, _, h2, _⟩ := h
    rw [h2.len, hl]
  · obtain ⟨G, x, sm, ha, hp, q⟩ := h
    exact wp ⟨K, C, NoM, G, H⟩ x rfl rfl hp _ G H (S3.init ha sm (by rw [hl]; exact hn)) _ (fun _ _ _ _ z => z.elim) fun v r γ' σ' G' H' ⟨d, e, hr⟩ ra s' => by
      subst e
      obtain ⟨p, xs, rfl, e1, e2, e3, e4⟩ := ra
      exact q p xs d G' H' hr s'.grow e1 e4 e2 e3
end

/-! ### promises by entries: what is handed in to be written -/
structure EnsOk (c : Cn) (G H : Hp) (es : List En) (vs : List V) : Prop where
  len : vs.length = es.length
  ent : ∀ (i : Nat) (e : En), es[i]? = some e → ∃ v, vs[i]? = some v ∧ EnAt c G H e (some (some v))
  dis : ∀ (i j : Nat) (ei ej : En) (p : Addr), es[i]? = some ei → es[j]? = some ej → isMut ei = true → isMut ej = true → vs[i]? = some (.ref p) → vs[j]? = some (.ref p) → i = j
theorem S3.initE {K : Fg} {C : Addr} {M : Addr → Prop} {N : List Str} {G H : Hp} {es : List En} {vs : List V} {n : Nat} (sm : Same G H) (h : EnsOk ⟨K, C, M, G, H⟩ G H es vs) (hn : N.length = es.length + n) : S3 ⟨K, C, M, G, H⟩ (es ++ List.replicate n .no) (L2.start N vs) G H where
  grow := Grow.refl sm
  len := by
    unfold L2.start
    rw [List.length_append, List.length_append, List.length_map, List.length_replicate, List.length_replicate, h.len]
    omega
  ent := fun i e q => by
    by_cases hi : i < es.length
    · rw [List.getElem?_append_left hi] at q
      obtain ⟨v, e1, e2⟩ := h.ent i e q
      rw [start_get e1]
      exact e2
    · rw [List.getElem?_append_right (by omega), List.getElem?_replicate] at q
      split at q
      · cases q; trivial
      · cases q
  dis := fun i j ei ej p q1 q2 m1 m2 r1 r2 => by
    have lo : ∀ (k : Nat) (ek : En), (es ++ List.replicate n .no)[k]? = some ek → isMut ek = true → k < es.length ∧ es[k]? = some ek := fun k ek q m => by
      by_cases hk : k < es.length
      · rw [List.getElem?_append_left hk] at q
        exact ⟨hk, q⟩
      · rw [List.getElem?_append_right (by omega), List.getElem?_replicate] at q
        split at q
        · cases q; cases m
        · cases q
    have val : ∀ (k : Nat) (ek : En), es[k]? = some ek → (L2.start N vs)[k]? = some (some (.ref p)) → vs[k]? = some (.ref p) := fun k ek q r => by
      obtain ⟨v, e1, _⟩ := h.ent k ek q
      rw [start_get e1] at r
      rw [e1, Option.some.inj r]
    obtain ⟨_, k1⟩ := lo i ei q1 m1
    obtain ⟨_, k2⟩ := lo j ej q2 m2
    exact h.dis i j ei ej p k1 k2 m1 m2 (val i ei k1 r1) (val j ej k2 r2)
def spE (K : Fg) (C : Addr) {ι : Type} (ents : ι → List En) (M : ι → Addr → Prop) (pre : ι → Prop) (res : ι → Rt → List En → Prop) : Sp := fun vs H Q _ =>
  ∃ (G : Hp) (x : ι), Same G H ∧ EnsOk ⟨K, C, M x, G, H⟩ G H (ents x) vs ∧ pre x ∧ ∀ v r γ' σ' G' H', res x r γ' → RtAt ⟨K, C, M x, G, H⟩ G' H' r v → S3 ⟨K, C, M x, G, H⟩ γ' σ' G' H' → Q v H'
theorem fnE {P : Program} {w : World} {K : Fg} {mg : Str → Option Value} {base : Heap} {x qual : Str} {st : Stmt} {f : Addr} {fd : FuncData} {N ps : List Str} {k n : Nat} {C : Addr} {ι : Type} {ents : ι → List En} {M : ι → Addr → Prop} {pre : ι → Prop} {res : ι → Rt → List En → Prop} {t : TS}
    (F : Fun K x qual st f fd) (S : FnScope N ps (defScope st)) (hl : ∀ x, (ents x).length = ps.length) (hn : N.length = ps.length + n) (der : Der P w K mg base N qual st f k t)
    (wp : ∀ (c : Cn) (x : ι), c.K = K → c.C = C → c.M = M x → pre x → wpS c t (ents x ++ List.replicate n .no) (fun _ => False) (res x)) : FnOk P w K mg base CX0 (k + 1) f fd ps (spE K C ents M pre res) := by
  refine F.ok S (fun vs H Q E h => ?_) (fun cdv A outer s H vs Q E hr h => ⟨t, der cdv A outer s H E hr, ?_⟩)
  · obtain ⟨G, x, _, h2, _⟩ := h
    rw [h2.len, hl]
  · obtain ⟨G, x, sm, ha, hp, q⟩ := h
    exact wp ⟨K, C, M x, G, H⟩ x rfl rfl rfl hp _ G H (S3.initE sm ha (by rw [hl]; exact hn)) _ (fun _ _ _ _ z => z.elim) fun v r γ' σ' G' H' hr ra s' => q v r γ' σ' G' H' hr ra s'
/-- the rows were written -/
theorem S3.wrote {c : Cn} {γ : List En} {σ : L2.St} {G H G' H' : Hp} {i : Nat} {p : Addr} {ns : List Int} (s : S3 c γ σ G H) (hi : γ[i]? = some (.rows p)) (g : Grow (fun a => a = p) G H G' H') (hg : G' p = none) (hh : H' p = some (.lst (ns.map V.int))) (hn : ns.length = 18) :
    S3 c γ σ G' H' ∧ Grow (MutA γ) G H G' H' := by
  obtain ⟨ns0, e1, e2, e3, e4, e5⟩ := s.ent i _ hi
  refine ⟨s.step g (fun a z => z ▸ e5) rfl fun k e q => ⟨e, q, id, ?_⟩, g.mono fun a z => z ▸ ⟨i, hi⟩⟩
  by_cases hk : k = i
  · subst hk
    rw [hi] at q
    cases q
    exact .inr ⟨ns, e1, hg, hh, hn, e5⟩
  · refine .inl ⟨rfl, fun r m hr z => ?_⟩
    subst z
    exact hk (s.dis k i e _ r q hi m rfl hr e1)
end W3

/-! ## LayM -/
namespace W3
open PySem L2

/-! ### the data of the law -/
def bi : Bool → Int
  | false => 0
  | true => 1
structure Pt where
  a : Int
  b : Int
  k : Int
  deriving Inhabited
def Pt.d (p : Pt) : PyData := .tuple [.int p.a, .int p.b, .int p.k]
structure Bd where
  x : Pt
  y : Pt
  w : Int
  p : Int
  deriving Inhabited
def Bd.d (b : Bd) : PyData := .tuple [b.x.d, b.y.d, .int b.w, .int b.p]
def optP : Option Pt → PyData
  | none => .none
  | some p => p.d
def optI : Option Int → PyData
  | none => .none
  | some i => .int i
def optB : Option Bool → PyData
  | none => .none
  | some b => .int (bi b)
structure Hd where
  since : Option Pt
  sh : Int
  kd : Bool
  deriving Inhabited
def Hd.d (h : Hd) : PyData := .tuple [optP h.since, .int h.sh, .int (bi h.kd)]
structure Ck where
  nm : Str
  own : Int
  goes : Bool
  lo : Bool → Int
  hi : Bool → Int
def Ck.d (c : Ck) : PyData := .tuple [.str c.nm, .int c.own, .bool c.goes, .tuple [.tuple [.str "k", .int (c.lo false), .int (c.hi false)], .tuple [.str "j", .int (c.lo true), .int (c.hi true)]]]
instance : Inhabited Ck := ⟨⟨"", 0, false, fun _ => 0, fun _ => 0⟩⟩
structure Lk where
  nm : Str
  src : Int
  dst : Int
  le : Bool → Int
  mo : Bool → Option Int
def Lk.d (l : Lk) : PyData := .tuple [.str l.nm, .int l.src, .int l.dst, .tuple [.tuple [.str "q", .int (l.le false), optI (l.mo false)], .tuple [.str "r", .int (l.le true), optI (l.mo true)]]]
instance : Inhabited Lk := ⟨⟨"", 0, 0, fun _ => 0, fun _ => none⟩⟩
structure Sr where
  nm : Str
  dev : Int
  ea : Bool → Int
  la : Bool → Int
def Sr.d (s : Sr) : PyData := .tuple [.str s.nm, .int s.dev, .tuple [.tuple [.str "g", .int (s.ea false), .int (s.la false)], .tuple [.str "h", .int (s.ea true), .int (s.la true)]]]
instance : Inhabited Sr := ⟨⟨"", 0, fun _ => 0, fun _ => 0⟩⟩
structure FrD where
  cks : List Ck
  lk0 : Lk
  lk1 : Lk
  srs : List Sr
def FrD.fr (f : FrD) : Fr := ⟨f.cks.map Ck.d, [f.lk0.d, f.lk1.d], f.srs.map Sr.d⟩
structure FrOk (f : FrD) : Prop where
  ncks : f.cks.length ≤ 100
  nsrs : f.srs.length ≤ 100
  lo : ∀ c ∈ f.cks, ∀ b, -(2 ^ 64) < c.lo b ∧ c.lo b < 2 ^ 64
  hi : ∀ c ∈ f.cks, ∀ b, -(2 ^ 64) < c.hi b ∧ c.hi b < 2 ^ 64
  src : f.lk0.src = 0
inductive Dd where
  | note
  | kind (c : Nat) (k : Bool)
  | anew (ks : List Bool)
  | mark (s : Nat) (k : Bool) (v : Int)
  | send (k : Bool)
  | tell
  | hear (n : Nat)
  | commit (x : Int)
  deriving Inhabited
def Dd.d : Dd → PyData
  | .note => .tuple [.str "note"]
  | .kind c k => .tuple [.str "kind", .int c, .int (bi k)]
  | .anew ks => .tuple [.str "anew", .tuple (ks.map fun k => .int (bi k))]
  | .mark s k v => .tuple [.str "mark", .int s, .int (bi k), .int v]
  | .send k => .tuple [.str "send", .int 0, .int (bi k)]
  | .tell => .tuple [.str "tell", .int 0]
  | .hear n => .tuple [.str "hear", .int 0, .int n]
  | .commit x => .tuple [.str "commit", .int x]
structure Ev where
  asleep : Bool
  shown : List Int
  after : List Int
  deed : Dd
  kn : Int
  deriving Inhabited
def Ev.d (e : Ev) : PyData := .tuple [.bool e.asleep, .tuple (e.shown.map .int), .tuple (e.after.map .int), e.deed.d, .tuple [.int e.kn, .int e.kn]]

/-! ### what the rules give -/
/-- the clocks of a device -/
def mineP (cks : List Ck) (dev : Int) (k : Nat) : Bool := decide ((cks.getD k default).own = dev)
def mineN (cks : List Ck) (dev : Int) (n : Nat) : List Nat := (List.range n).filter (mineP cks dev)
def mine (cks : List Ck) (dev : Int) : List Nat := mineN cks dev cks.length
def within (x y : Pt) (lo hi part : Int) : List Bd := [⟨x, y, hi, part⟩, ⟨y, x, -lo, part⟩]
def clockB (lo hi part : Int) (h : Hd) (stopped : Bool) (tick ev before : Pt) (shown : Int) : List Bd × Pt :=
  match h.since with
  | none => (within tick ev 0 hi part, tick)
  | some since =>
    if stopped = true then (within tick ev 0 hi part, tick)
    else if shown = h.sh then (within since ev 0 hi part, since)
    else (within since tick (lo * (shown - h.sh)) (hi * (shown - h.sh)) part ++ [⟨tick, since, 0, part⟩, ⟨tick, before, -lo * ((shown - h.sh) - 1), part⟩] ++ within tick ev 0 hi part, tick)
def toldK (deed : Dd) (clock place : Nat) : Option Bool :=
  match deed with
  | .kind c k => if c = clock then some k else none
  | .anew ks => some (ks.getD place false)
  | _ => none
def handA (deed : Dd) (clock place : Nat) (point : Pt) (hand : Hd) (after : Int) : Hd :=
  match toldK deed clock place with
  | some k => ⟨some point, after, k⟩
  | none => if after = hand.sh then hand else ⟨some point, after, hand.kd⟩
def isAnew : Dd → Bool
  | .anew _ => true
  | _ => false
def hereP (dev n : Int) : Pt := ⟨dev, n, -1⟩
/-- one clock at one event: its bounds, its hand behind it -/
def clockAt (ck : Ck) (dev n : Int) (e : Ev) (c place : Nat) (h : Hd) : List Bd × Hd :=
  let r := clockB (ck.lo h.kd) (ck.hi h.kd) c h ((e.asleep && !ck.goes) || isAnew e.deed) ⟨dev, n, c⟩ (hereP dev n) (hereP dev (n - 1)) (e.shown.getD place 0)
  (r.1, handA e.deed c place (hereP dev n) ⟨some r.2, e.shown.getD place 0, h.kd⟩ (e.after.getD place 0))
def mostB (w here : Pt) (part : Int) : Option Int → List Bd
  | none => []
  | some m => [⟨w, here, m, part⟩]
def hearB (f : FrD) (w here : Pt) : Option Bool → List Bd
  | none => [⟨here, w, 0, -1⟩]
  | some k => [⟨here, w, 0, -1⟩, ⟨here, w, -(f.lk0.le k), f.cks.length⟩] ++ mostB w here f.cks.length (f.lk0.mo k)
def deedB (f : FrD) (here : Pt) (deed : Dd) (kind : Option Bool) : List Bd :=
  match deed with
  | .mark s k v => within ⟨-1, 0, -1⟩ here (v - (f.srs.getD s default).ea k) (v + (f.srs.getD s default).la k) (f.cks.length + 2 + s)
  | .hear n => hearB f ⟨f.lk0.src, n, -1⟩ here kind
  | _ => []
def placeB (f : FrD) (dev n : Int) (e : Ev) (hands : List Hd) (i : Nat) : List Bd × Hd :=
  let c := (mine f.cks dev).getD i 0
  clockAt (f.cks.getD c default) dev n e c i (hands.getD i default)
def eventB (f : FrD) (dev n : Int) (e : Ev) (hands : List Hd) (kind : Option Bool) : List Bd × List Hd :=
  ((⟨hereP dev n, hereP dev (n - 1), 0, -1⟩ :: ((List.range (mine f.cks dev).length).flatMap fun i => (placeB f dev n e hands i).1)) ++ deedB f (hereP dev n) e.deed kind,
   (List.range (mine f.cks dev).length).map fun i => (placeB f dev n e hands i).2)
/-- the kind by which what is heard was sent -/
def sendK : Dd → Option Bool
  | .send k => some k
  | _ => none
def kindOf (v0 : List Ev) (deed : Dd) : Option Bool :=
  match deed with
  | .hear n => sendK (v0.getD n default).deed
  | _ => none
def hands0 (f : FrD) (dev : Int) : List Hd := (mine f.cks dev).map fun _ => ⟨none, 0, false⟩
/-- behind n events of a device's: the bounds so far, the hands -/
def devSt (f : FrD) (v0 : List Ev) (dev : Int) (evs : List Ev) : Nat → List Bd × List Hd
  | 0 => ([], hands0 f dev)
  | n + 1 =>
    let r := eventB f dev ((n + 1 : Nat) : Int) (evs.getD (n + 1) default) (devSt f v0 dev evs n).2 (kindOf v0 (evs.getD (n + 1) default).deed)
    ((devSt f v0 dev evs n).1 ++ r.1, r.2)

/-! what is asked of an event -/
structure EvOk (f : FrD) (v0 : List Ev) (dev : Int) (e : Ev) : Prop where
  sh : e.shown.length = (mine f.cks dev).length
  af : e.after.length = (mine f.cks dev).length
  anew : ∀ ks, e.deed = .anew ks → ks.length = (mine f.cks dev).length
  mark : ∀ s k v, e.deed = .mark s k v → s < f.srs.length
  hear : ∀ n, e.deed = .hear n → n < v0.length

/-! ### sizes -/
theorem mine_lt {cks : List Ck} {dev : Int} {c : Nat} (h : c ∈ mine cks dev) : c < cks.length := by
  unfold mine mineN at h
  exact List.mem_range.mp (List.mem_filter.mp h).1
theorem mine_len (cks : List Ck) (dev : Int) : (mine cks dev).length ≤ cks.length := by
  unfold mine mineN
  exact Nat.le_trans (List.length_filter_le _ _) (by rw [List.length_range]; exact Nat.le_refl _)
theorem mineN_succ (cks : List Ck) (dev : Int) (n : Nat) : mineN cks dev (n + 1) = mineN cks dev n ++ if mineP cks dev n = true then [n] else [] := by
  unfold mineN
  rw [List.range_succ, List.filter_append]
  congr 1
  by_cases h : mineP cks dev n = true
  · rw [if_pos h, List.filter_cons, if_pos h]; rfl
  · rw [if_neg h, List.filter_cons, if_neg h]; rfl
theorem mineN_len (cks : List Ck) (dev : Int) (n : Nat) : (mineN cks dev n).length ≤ n := by
  unfold mineN
  exact Nat.le_trans (List.length_filter_le _ _) (by rw [List.length_range]; exact Nat.le_refl _)
theorem clockB_len (lo hi part : Int) (h : Hd) (st : Bool) (tick ev before : Pt) (shown : Int) : (clockB lo hi part h st tick ev before shown).1.length ≤ 6 := by
  unfold clockB
  cases h.since with
  | none => exact (by decide : 2 ≤ 6)
  | some s =>
    dsimp only
    by_cases h1 : st = true
    · rw [if_pos h1]; exact (by decide : 2 ≤ 6)
    · rw [if_neg h1]
      by_cases h2 : shown = h.sh
      · rw [if_pos h2]; exact (by decide : 2 ≤ 6)
      · rw [if_neg h2]; exact (by decide : 6 ≤ 6)
theorem clockAt_len (ck : Ck) (dev n : Int) (e : Ev) (c place : Nat) (h : Hd) : (clockAt ck dev n e c place h).1.length ≤ 6 := clockB_len _ _ _ _ _ _ _ _ _
theorem flat_len {α : Type} {g : Nat → List α} {b : Nat} (h : ∀ i, (g i).length ≤ b) : ∀ n : Nat, ((List.range n).flatMap g).length ≤ b * n
  | 0 => by simp
  | n + 1 => by
    rw [List.range_succ, List.flatMap_append, List.length_append]
    have := flat_len h n
    have h2 := h n
    have e : ([n].flatMap g).length = (g n).length := by simp
    rw [e, Nat.mul_succ]
    omega
theorem mostB_len (w here : Pt) (part : Int) (o : Option Int) : (mostB w here part o).length ≤ 1 := by
  cases o with
  | none => exact Nat.zero_le _
  | some m => exact Nat.le_refl _
theorem deedB_len (f : FrD) (here : Pt) (deed : Dd) (kind : Option Bool) : (deedB f here deed kind).length ≤ 3 := by
  unfold deedB
  cases deed with
  | mark s k v => exact (by decide : 2 ≤ 3)
  | hear n =>
    dsimp only
    cases kind with
    | none => exact (by decide : 1 ≤ 3)
    | some k =>
      have h := mostB_len ⟨f.lk0.src, n, -1⟩ here f.cks.length (f.lk0.mo k)
      show ([_, _] ++ mostB _ _ _ _).length ≤ 3
      rw [List.length_append]
      show 2 + _ ≤ 3
      omega
  | _ => exact Nat.zero_le _
theorem eventB_len {f : FrD} (ok : FrOk f) (dev n : Int) (e : Ev) (hands : List Hd) (kind : Option Bool) : (eventB f dev n e hands kind).1.length ≤ 700 := by
  unfold eventB
  dsimp only
  rw [List.length_append, List.length_cons]
  have h1 := flat_len (g := fun i => (placeB f dev n e hands i).1) (b := 6) (fun i => clockAt_len _ _ _ _ _ _ _) (mine f.cks dev).length
  have h2 := deedB_len f (hereP dev n) e.deed kind
  have h3 := mine_len f.cks dev
  have h4 := ok.ncks
  have h5 : 6 * (mine f.cks dev).length ≤ 6 * 100 := Nat.mul_le_mul_left 6 (by omega)
  omega
theorem devSt_len {f : FrD} (ok : FrOk f) (v0 : List Ev) (dev : Int) (evs : List Ev) : ∀ n : Nat, (devSt f v0 dev evs n).1.length ≤ 700 * n
  | 0 => Nat.le_refl _
  | n + 1 => by
    unfold devSt
    dsimp only
    rw [List.length_append]
    have h1 := devSt_len ok v0 dev evs n
    have h2 := eventB_len ok dev ((n + 1 : Nat) : Int) (evs.getD (n + 1) default) (devSt f v0 dev evs n).2 (kindOf v0 (evs.getD (n + 1) default).deed)
    omega
theorem hands_len {f : FrD} (dev n : Int) (e : Ev) (hands : List Hd) (kind : Option Bool) : (eventB f dev n e hands kind).2.length = (mine f.cks dev).length := by
  unfold eventB
  rw [List.length_map, List.length_range]
theorem devSt_hands {f : FrD} (v0 : List Ev) (dev : Int) (evs : List Ev) : ∀ n : Nat, (devSt f v0 dev evs n).2.length = (mine f.cks dev).length
  | 0 => by unfold devSt hands0; rw [List.length_map]
  | n + 1 => by
    unfold devSt
    dsimp only
    exact hands_len _ _ _ _ _

/-! ### comparable data -/
theorem shaped_of {d : PyData} (h1 : d.canLay0 = true) (h2 : d.depth ≤ 64) : SeqAt.shaped d = true := by
  unfold SeqAt.shaped
  rw [h1, decide_eq_true h2]
  rfl
theorem sh_int (i : Int) : SeqAt.shaped (.int i) = true := shaped_of (by simp only [PyData.canLay0]) (by simp [PyData.depth])
theorem sh_str {x : Str} (h : PySem.PyData.strOk x = true) : SeqAt.shaped (.str x) = true := shaped_of (by simp only [PyData.canLay0]; exact h) (by simp [PyData.depth])
theorem lay_pt (p : Pt) : p.d.canLay0 = true := by simp [Pt.d, PyData.canLay0, PyData.canLayAll0]
theorem dep_pt (p : Pt) : p.d.depth ≤ 1 := by simp [Pt.d, PyData.depth, PyData.depthAll]
theorem lay_bd (b : Bd) : b.d.canLay0 = true := by simp [Bd.d, PyData.canLay0, PyData.canLayAll0, lay_pt]
theorem dep_bd (b : Bd) : b.d.depth ≤ 2 := by
  have h1 := dep_pt b.x
  have h2 := dep_pt b.y
  simp only [Bd.d, PyData.depth, PyData.depthAll]
  omega
theorem lay_hd (h : Hd) : h.d.canLay0 = true := by
  cases h with
  | mk s a k => cases s <;> simp [Hd.d, optP, PyData.canLay0, PyData.canLayAll0, lay_pt]
theorem dep_hd (h : Hd) : h.d.depth ≤ 2 := by
  cases h with
  | mk s a k =>
    cases s with
    | none => simp [Hd.d, optP, PyData.depth, PyData.depthAll]
    | some p =>
      have h1 := dep_pt p
      simp only [Hd.d, optP, PyData.depth, PyData.depthAll]
      omega
theorem lay_all {α : Type} {g : α → PyData} (h : ∀ x, (g x).canLay0 = true) : ∀ xs : List α, PyData.canLayAll0 (xs.map g) = true
  | [] => by simp [PyData.canLayAll0]
  | x :: xs => by simp only [List.map_cons, PyData.canLayAll0, h x, lay_all h xs, Bool.and_self]
theorem dep_all {α : Type} {g : α → PyData} {b : Nat} (h : ∀ x, (g x).depth ≤ b) : ∀ xs : List α, PyData.depthAll (xs.map g) ≤ b
  | [] => by simp [PyData.depthAll]
  | x :: xs => by
    have h1 := h x
    have h2 := dep_all h xs
    simp only [List.map_cons, PyData.depthAll]
    omega
theorem lay_list {α : Type} {g : α → PyData} (h : ∀ x, (g x).canLay0 = true) (xs : List α) : (PyData.list (xs.map g)).canLay0 = true := by
  simp only [PyData.canLay0]
  exact lay_all h xs
theorem sh_list {α : Type} {g : α → PyData} {b : Nat} (h : ∀ x, (g x).canLay0 = true) (h2 : ∀ x, (g x).depth ≤ b) (hb : b ≤ 63) (xs : List α) : SeqAt.shaped (.list (xs.map g)) = true :=
  shaped_of (lay_list h xs) (by
    have := dep_all h2 xs
    simp only [PyData.depth]
    omega)
theorem sh_bds (xs : List Bd) : SeqAt.shaped (.list (xs.map Bd.d)) = true := sh_list lay_bd dep_bd (by decide) xs
theorem sh_hds (xs : List Hd) : SeqAt.shaped (.list (xs.map Hd.d)) = true := sh_list lay_hd dep_hd (by decide) xs
theorem eq_bds (xs : List Bd) : PyData.eqv (.list (xs.map Bd.d)) (.list (xs.map Bd.d)) = true := SeqAt.eqv_refl _ (lay_list lay_bd xs)
theorem eq_hds (xs : List Hd) : PyData.eqv (.list (xs.map Hd.d)) (.list (xs.map Hd.d)) = true := SeqAt.eqv_refl _ (lay_list lay_hd xs)
section
variable {c : Cn} {γ : List En} {P : PyData → Prop}
theorem eqv_int (i j : Int) : PyData.eqv (.int i) (.int j) = decide (i = j) := by
  simp only [PyData.eqv]
  exact Bool.beq_eq_decide_eq _ _
theorem eqv_str (x y : Str) : PyData.eqv (.str x) (.str y) = decide (x = y) := by
  simp only [PyData.eqv]
  exact Bool.beq_eq_decide_eq _ _
theorem r_eqI {i j : Int} (p : P (.bool (decide (i = j)))) : RD c γ (rEqD c.K) (.int i) (.int j) P := r_eq (sh_int i) (sh_int j) (by rw [eqv_int]; exact p)
theorem r_neI {i j : Int} (p : P (.bool (!decide (i = j)))) : RD c γ (rNeD c.K) (.int i) (.int j) P := r_ne (sh_int i) (sh_int j) (by rw [eqv_int]; exact p)
theorem r_eqS {x y : Str} (h1 : PySem.PyData.strOk x = true) (h2 : PySem.PyData.strOk y = true) (p : P (.bool (decide (x = y)))) : RD c γ (rEqD c.K) (.str x) (.str y) P := r_eq (sh_str h1) (sh_str h2) (by rw [eqv_str]; exact p)
theorem r_neS {x y : Str} (h1 : PySem.PyData.strOk x = true) (h2 : PySem.PyData.strOk y = true) (p : P (.bool (!decide (x = y)))) : RD c γ (rNeD c.K) (.str x) (.str y) P := r_ne (sh_str h1) (sh_str h2) (by rw [eqv_str]; exact p)
/-- of one written text with itself, with another -/
theorem r_eqSy {x : Str} (h1 : PySem.PyData.strOk x = true) (p : P (.bool true)) : RD c γ (rEqD c.K) (.str x) (.str x) P := r_eqS h1 h1 (by rw [decide_eq_true rfl]; exact p)
theorem r_eqSn {x y : Str} (h1 : PySem.PyData.strOk x = true) (h2 : PySem.PyData.strOk y = true) (h : decide (x = y) = false) (p : P (.bool false)) : RD c γ (rEqD c.K) (.str x) (.str y) P := r_eqS h1 h2 (by rw [h]; exact p)
theorem r_neSy {x : Str} (h1 : PySem.PyData.strOk x = true) (p : P (.bool false)) : RD c γ (rNeD c.K) (.str x) (.str x) P := r_neS h1 h1 (by rw [decide_eq_true rfl]; exact p)
theorem r_neSn {x y : Str} (h1 : PySem.PyData.strOk x = true) (h2 : PySem.PyData.strOk y = true) (h : decide (x = y) = false) (p : P (.bool true)) : RD c γ (rNeD c.K) (.str x) (.str y) P := r_neS h1 h2 (by rw [h]; exact p)
end
/-! places -/
theorem datI_nat (ds : List PyData) (n : Nat) : datI ds (n : Int) = ds[n]? := by
  unfold datI
  rw [if_pos (Int.natCast_nonneg n)]
  rfl
theorem datI_map {α : Type} {g : α → PyData} {xs : List α} {n : Nat} {x : α} (h : xs[n]? = some x) : datI (xs.map g) (n : Int) = some (g x) := by
  rw [datI_nat, List.getElem?_map, h]
  rfl
theorem getD_of {α : Type} {xs : List α} {n : Nat} (d : α) (h : n < xs.length) : xs[n]? = some (xs.getD n d) := by
  rw [List.getD_eq_getElem?_getD, List.getElem?_eq_getElem h]
  rfl
theorem datI_getD {α : Type} {g : α → PyData} {xs : List α} {n : Nat} (d : α) (h : n < xs.length) : datI (xs.map g) (n : Int) = some (g (xs.getD n d)) := datI_map (getD_of d h)
theorem datI_bi (x y : PyData) (b : Bool) : datI [x, y] (bi b) = some (if b = true then y else x) := by cases b <;> rfl
end W3

/-! ## LayR -/
namespace W3
open PySem L2

/-! ### the promises of the pure defs -/
def viewD (v0 v1 : List Ev) : PyData := .list [.list (v0.map Ev.d), .list (v1.map Ev.d)]
structure A_within where
  x : Pt
  y : Pt
  lo : Int
  hi : Int
  part : Int
def sp_within (K : Fg) (C : Addr) : Sp := spL K C (fun a : A_within => [.d a.x.d, .d a.y.d, .d (.int a.lo), .d (.int a.hi), .d (.int a.part)]) (fun _ => True) fun a ds => ds = (within a.x a.y a.lo a.hi a.part).map Bd.d
structure A_toldKind where
  deed : Dd
  clock : Nat
  place : Nat
def okAnew (deed : Dd) (place : Nat) : Prop := ∀ ks, deed = .anew ks → place < ks.length
def sp_toldKind (K : Fg) (C : Addr) : Sp := spP K C (fun a : A_toldKind => [.d a.deed.d, .d (.int a.clock), .d (.int a.place)]) (fun a => okAnew a.deed a.place) fun a d => d = optB (toldK a.deed a.clock a.place)
structure A_sentKind where
  f : FrD
  v0 : List Ev
  v1 : List Ev
  deed : Dd
def sp_sentKind (K : Fg) (C : Addr) : Sp := spP K C (fun a : A_sentKind => [.d (viewD a.v0 a.v1), .f a.f.fr, .d a.deed.d]) (fun a => FrOk a.f ∧ ∀ n, a.deed = .hear n → n < a.v0.length) fun a d => d = optB (kindOf a.v0 a.deed)
structure A_part where
  f : FrD
  n : Int
def sp_linkPart (K : Fg) (C : Addr) : Sp := spP K C (fun a : A_part => [.f a.f.fr, .d (.int a.n)]) (fun _ => True) fun a d => d = .int (a.f.cks.length + a.n)
def sp_sourcePart (K : Fg) (C : Addr) : Sp := spP K C (fun a : A_part => [.f a.f.fr, .d (.int a.n)]) (fun _ => True) fun a d => d = .int (a.f.cks.length + 2 + a.n)
def sp_clocksOf (K : Fg) (C : Addr) : Sp := spL K C (fun a : A_part => [.f a.f.fr, .d (.int a.n)]) (fun a => FrOk a.f) fun a ds => ds = (mine a.f.cks a.n).map fun k : Nat => PyData.int (k : Int)
def sp_firstHands (K : Fg) (C : Addr) : Sp := spL K C (fun a : A_part => [.f a.f.fr, .d (.int a.n)]) (fun a => FrOk a.f) fun a ds => ds = (hands0 a.f a.n).map Hd.d
structure A_handAfter where
  deed : Dd
  clock : Nat
  place : Nat
  point : Pt
  hand : Hd
  e : Ev
  after : Int
def sp_handAfter (K : Fg) (C : Addr) : Sp := spP K C (fun a : A_handAfter => [.d a.deed.d, .d (.int a.clock), .d (.int a.place), .d a.point.d, .d a.hand.d, .d a.e.d, .d (.int a.after)]) (fun a => okAnew a.deed a.place) fun a d => d = (handA a.deed a.clock a.place a.point a.hand a.after).d
structure A_clockBounds where
  lo : Int
  hi : Int
  part : Int
  h : Hd
  st : Bool
  tick : Pt
  ev : Pt
  before : Pt
  shown : Int
def sm64 (i : Int) : Prop := -(2 ^ 64) < i ∧ i < 2 ^ 64
def sp_clockBounds (K : Fg) (C : Addr) : Sp := spP K C (fun a : A_clockBounds => [.d (.tuple [.int a.lo, .int a.hi, .int a.part]), .d a.h.d, .d (.bool a.st), .d a.tick.d, .d a.ev.d, .d a.before.d, .d (.int a.shown)]) (fun a => sm64 a.lo ∧ sm64 a.hi)
  fun a d => d = .tuple [.list ((clockB a.lo a.hi a.part a.h a.st a.tick a.ev a.before a.shown).1.map Bd.d), (clockB a.lo a.hi a.part a.h a.st a.tick a.ev a.before a.shown).2.d]
structure A_deedBounds where
  f : FrD
  here : Pt
  deed : Dd
  kind : Option Bool
def okMark (f : FrD) (deed : Dd) : Prop := ∀ s k v, deed = .mark s k v → s < f.srs.length
def sp_deedBounds (K : Fg) (C : Addr) : Sp := spL K C (fun a : A_deedBounds => [.f a.f.fr, .d a.here.d, .d a.deed.d, .d (optB a.kind)]) (fun a => FrOk a.f ∧ okMark a.f a.deed) fun a ds => ds = (deedB a.f a.here a.deed a.kind).map Bd.d
structure A_eventBounds where
  f : FrD
  dev : Int
  n : Int
  e : Ev
  hands : List Hd
  kind : Option Bool
def sp_eventBounds (K : Fg) (C : Addr) : Sp := spP K C (fun a : A_eventBounds => [.f a.f.fr, .d (.tuple [.int a.dev, .int a.n, a.e.d]), .d (.list (a.hands.map Hd.d)), .d (optB a.kind)])
  (fun a => FrOk a.f ∧ (∃ v0, EvOk a.f v0 a.dev a.e) ∧ a.hands.length = (mine a.f.cks a.dev).length)
  fun a d => d = .tuple [.list ((eventB a.f a.dev a.n a.e a.hands a.kind).1.map Bd.d), .list ((eventB a.f a.dev a.n a.e a.hands a.kind).2.map Hd.d)]
structure A_view where
  f : FrD
  v0 : List Ev
  v1 : List Ev
structure ViewOk (f : FrD) (v0 v1 : List Ev) : Prop where
  fr : FrOk f
  n0 : v0.length ≤ 100
  n1 : v1.length ≤ 100
  e0 : ∀ n : Nat, n + 1 < v0.length → EvOk f v0 0 (v0.getD (n + 1) default)
  e1 : ∀ n : Nat, n + 1 < v1.length → EvOk f v0 1 (v1.getD (n + 1) default)
def allB (f : FrD) (v0 v1 : List Ev) : List Bd := (devSt f v0 0 v0 (v0.length - 1)).1 ++ (devSt f v0 1 v1 (v1.length - 1)).1
def sp_viewBounds (K : Fg) (C : Addr) : Sp := spP K C (fun a : A_view => [.f a.f.fr, .d (viewD a.v0 a.v1)]) (fun a => ViewOk a.f a.v0 a.v1) fun a d => d = .list ((allB a.f a.v0 a.v1).map Bd.d)
def sp_lawKind (K : Fg) (C : Addr) : Sp := spP K C (fun a : Dd => [.d a.d]) (fun _ => True) fun a d => d = optB (sendK a)
structure A_restDue where
  f : FrD
  here : Pt
  e : Ev
  word : Dd
def sp_restDue (K : Fg) (C : Addr) : Sp := spL K C (fun a : A_restDue => [.f a.f.fr, .d a.here.d, .d a.e.d, .d a.word.d]) (fun a => FrOk a.f ∧ okMark a.f a.e.deed) fun a ds => ds = (deedB a.f a.here a.e.deed (sendK a.word)).map Bd.d
structure A_clockDue where
  f : FrD
  h : Hd
  c : Nat
  dev : Int
  n : Int
  e : Ev
  place : Nat
def clockAtC (a : A_clockDue) : List Bd × Hd := clockAt (a.f.cks.getD a.c default) a.dev a.n a.e a.c a.place a.h
def sp_clockDue (K : Fg) (C : Addr) : Sp := spP K C (fun a : A_clockDue => [.f a.f.fr, .d a.h.d, .d (.int a.c), .d (hereP a.dev a.n).d, .d a.e.d, .d (.int a.place)])
  (fun a => FrOk a.f ∧ a.c < a.f.cks.length ∧ a.place < a.e.shown.length ∧ a.place < a.e.after.length ∧ okAnew a.e.deed a.place) fun a d => d = .tuple [.list ((clockAtC a).1.map Bd.d), (clockAtC a).2.d]

/-! ### the readings (printed) -/
def t_within (K : Fg) (C : Addr) : TS :=
  (tRet (tLst (tCons (tTup (tCons (tVar 0) (tCons (tVar 1) (tCons (tVar 3) (tCons (tVar 4) tNil))))) (tCons (tTup (tCons (tVar 1) (tCons (tVar 0) (tCons (tUn tNegU (tVar 2)) (tCons (tVar 4) tNil))))) tNil))))
def t_toldKind (K : Fg) (C : Addr) : TS :=
  (tSeq (tIfS (tAnd (tTest (tOp (rEqD K) (tOp (rIx K) (tVar 0) (tC (.int 0))) (tC (.str "kind")))) (tTest (tOp (rEqD K) (tOp (rIx K) (tVar 0) (tC (.int 1))) (tVar 1)))) (tRet (tOp (rIx K) (tVar 0) (tC (.int 2)))) tNext)
  (tSeq (tIfS (tTest (tOp (rEqD K) (tOp (rIx K) (tVar 0) (tC (.int 0))) (tC (.str "anew")))) (tRet (tOp (rIx K) (tOp (rIx K) (tVar 0) (tC (.int 1))) (tVar 2))) tNext)
  (tRet (tC .non))))
def t_sentKind (K : Fg) (C : Addr) : TS :=
  (tSeq (tIfS (tTest (tOp (rNeD K) (tOp (rIx K) (tVar 2) (tC (.int 0))) (tC (.str "hear")))) (tRet (tC .non)) tNext)
  (tSeq (tAsg (tOp (rIx K) (tOp (rIx K) (tOp (rIx K) (tVar 0) (tOp (rIx K) (tOp (rIx K) (tFld K (tVar 1) "links") (tOp (rIx K) (tVar 2) (tC (.int 1)))) (tC (.int 1)))) (tOp (rIx K) (tVar 2) (tC (.int 2)))) (tC (.int 3))) (gName 3))
  (tRet (tIf (tTest (tOp (rEqD K) (tOp (rIx K) (tVar 3) (tC (.int 0))) (tC (.str "send")))) (tOp (rIx K) (tVar 3) (tC (.int 2))) (tC .non)))))
def t_linkPart (K : Fg) (C : Addr) : TS :=
  (tRet (tOp oAdd (tCB (rLen3 K) (tCons (tFld K (tVar 0) "clocks") tNil)) (tVar 1)))
def t_sourcePart (K : Fg) (C : Addr) : TS :=
  (tRet (tOp oAdd (tOp oAdd (tCB (rLen3 K) (tCons (tFld K (tVar 0) "clocks") tNil)) (tCB (rLen3 K) (tCons (tFld K (tVar 0) "links") tNil))) (tVar 1)))
def t_clocksOf (K : Fg) (C : Addr) : TS :=
  (tRet (tLc (iEnum K (tCons (tFld K (tVar 0) "clocks") tNil)) (gTup K 2 (gCons (gName 2) (gCons (gName 3) gNil))) (tTest (tOp (rEqD K) (tOp (rIx K) (tVar 3) (tC (.int 1))) (tVar 1))) (tVar 2) [2, 3]))
def t_firstHands (K : Fg) (C : Addr) : TS :=
  (tRet (tLc (iList K (tMeth C "clocks_of" (sp_clocksOf K C) [] E0 (tVar 0) (tCons (tVar 1) tNil))) (gName 2) tYes (tTup (tCons (tC .non) (tCons (tC (.int 0)) (tCons (tC (.int 0)) tNil)))) [2]))
def t_handAfter (K : Fg) (C : Addr) : TS :=
  (tSeq (tAsg (tCall (sp_toldKind K C) [] E0 (tCons (tVar 0) (tCons (tVar 1) (tCons (tVar 2) tNil)))) (gName 7))
  (tSeq (tIfS (tTest (tOp oNotN (tVar 7) (tC .non))) (tRet (tTup (tCons (tVar 3) (tCons (tVar 6) (tCons (tVar 7) tNil))))) tNext)
  (tSeq (tIfS (tTest (tOp (rNeD K) (tVar 6) (tOp (rIx K) (tVar 4) (tC (.int 1))))) (tRet (tTup (tCons (tVar 3) (tCons (tVar 6) (tCons (tOp (rIx K) (tVar 4) (tC (.int 2))) tNil))))) tNext)
  (tRet (tVar 4)))))
def t_clockBounds (K : Fg) (C : Addr) : TS :=
  (tSeq (tAsg (tVar 0) (gTup K 3 (gCons (gName 7) (gCons (gName 8) (gCons (gName 9) gNil)))))
  (tSeq (tAsg (tVar 1) (gTup K 3 (gCons (gName 10) (gCons (gName 11) (gCons (gName 12) gNil)))))
  (tSeq (tIfS (tAnd (tTest (tOp oNotN (tVar 10) (tC .non))) (tAnd (tNot (tB (tVar 2))) (tTest (tOp (rEqD K) (tVar 6) (tVar 11))))) (tRet (tTup (tCons (tCall (sp_within K C) [] E0 (tCons (tVar 10) (tCons (tVar 4) (tCons (tC (.int 0)) (tCons (tVar 8) (tCons (tVar 9) tNil)))))) (tCons (tVar 10) tNil)))) tNext)
  (tSeq (tAsg (tLst tNil) (gName 13))
  (tSeq (tIfS (tAnd (tTest (tOp oNotN (tVar 10) (tC .non))) (tNot (tB (tVar 2)))) (tSeq (tAsg (tOp oSub (tVar 6) (tVar 11)) (gName 14))
  (tSeq (tAsg (tCall (sp_within K C) [] E0 (tCons (tVar 10) (tCons (tVar 3) (tCons (tOp oMul (tVar 7) (tVar 14)) (tCons (tOp oMul (tVar 8) (tVar 14)) (tCons (tVar 9) tNil)))))) (gName 13))
  (tSeq (tDrop (tBM K "list" rAppend (tVar 13) (tCons (tTup (tCons (tVar 3) (tCons (tVar 10) (tCons (tC (.int 0)) (tCons (tVar 9) tNil))))) tNil)))
  (tDrop (tBM K "list" rAppend (tVar 13) (tCons (tTup (tCons (tVar 3) (tCons (tVar 5) (tCons (tOp oMul (tUn tNegU (tVar 7)) (tOp oSub (tVar 14) (tC (.int 1)))) (tCons (tVar 9) tNil))))) tNil)))))) tNext)
  (tRet (tTup (tCons (tOp rCat (tVar 13) (tCall (sp_within K C) [] E0 (tCons (tVar 3) (tCons (tVar 4) (tCons (tC (.int 0)) (tCons (tVar 8) (tCons (tVar 9) tNil))))))) (tCons (tVar 3) tNil)))))))))
def t_deedBounds (K : Fg) (C : Addr) (aS : Addr) : TS :=
  (tSeq (tIfS (tTest (tOp (rEqD K) (tOp (rIx K) (tVar 2) (tC (.int 0))) (tC (.str "mark")))) (tSeq (tAsg (tOp (rIx K) (tOp (rIx K) (tOp (rIx K) (tFld K (tVar 0) "sources") (tOp (rIx K) (tVar 2) (tC (.int 1)))) (tC (.int 2))) (tOp (rIx K) (tVar 2) (tC (.int 2)))) (gTup K 3 (gCons (gName 4) (gCons (gName 5) (gCons (gName 6) gNil)))))
  (tSeq (tAsg (tMeth C "source_part" (sp_sourcePart K C) [] E0 (tVar 0) (tCons (tOp (rIx K) (tVar 2) (tC (.int 1))) tNil)) (gName 7))
  (tRet (tCall (sp_within K C) [] E0 (tCons (tC (.ref aS)) (tCons (tVar 1) (tCons (tOp oSub (tOp (rIx K) (tVar 2) (tC (.int 3))) (tVar 5)) (tCons (tOp oAdd (tOp (rIx K) (tVar 2) (tC (.int 3))) (tVar 6)) (tCons (tVar 7) tNil))))))))) tNext)
  (tSeq (tIfS (tTest (tOp (rNeD K) (tOp (rIx K) (tVar 2) (tC (.int 0))) (tC (.str "hear")))) (tRet (tLst tNil)) tNext)
  (tSeq (tAsg (tTup (tCons (tOp (rIx K) (tOp (rIx K) (tFld K (tVar 0) "links") (tOp (rIx K) (tVar 2) (tC (.int 1)))) (tC (.int 1))) (tCons (tOp (rIx K) (tVar 2) (tC (.int 2))) (tCons (tUn tNegU (tC (.int 1))) tNil)))) (gName 8))
  (tSeq (tAsg (tLst (tCons (tTup (tCons (tVar 1) (tCons (tVar 8) (tCons (tC (.int 0)) (tCons (tUn tNegU (tC (.int 1))) tNil))))) tNil)) (gName 9))
  (tSeq (tIfS (tTest (tOp oNotN (tVar 3) (tC .non))) (tSeq (tAsg (tOp (rIx K) (tOp (rIx K) (tOp (rIx K) (tFld K (tVar 0) "links") (tOp (rIx K) (tVar 2) (tC (.int 1)))) (tC (.int 3))) (tVar 3)) (gTup K 3 (gCons (gName 4) (gCons (gName 10) (gCons (gName 11) gNil)))))
  (tSeq (tAsg (tMeth C "link_part" (sp_linkPart K C) [] E0 (tVar 0) (tCons (tOp (rIx K) (tVar 2) (tC (.int 1))) tNil)) (gName 7))
  (tSeq (tDrop (tBM K "list" rAppend (tVar 9) (tCons (tTup (tCons (tVar 1) (tCons (tVar 8) (tCons (tUn tNegU (tVar 10)) (tCons (tVar 7) tNil))))) tNil)))
  (tIfS (tTest (tOp oNotN (tVar 11) (tC .non))) (tDrop (tBM K "list" rAppend (tVar 9) (tCons (tTup (tCons (tVar 8) (tCons (tVar 1) (tCons (tVar 11) (tCons (tVar 7) tNil))))) tNil))) tNext)))) tNext)
  (tRet (tVar 9)))))))
def t_eventBounds (K : Fg) (C : Addr) : TS :=
  (tSeq (tAsg (tVar 1) (gTup K 3 (gCons (gName 4) (gCons (gName 5) (gCons (gName 6) gNil)))))
  (tSeq (tAsg (tVar 6) (gTup K 5 (gCons (gName 7) (gCons (gName 8) (gCons (gName 9) (gCons (gName 10) (gCons (gName 11) gNil)))))))
  (tSeq (tAsg (tTup (tCons (tVar 4) (tCons (tVar 5) (tCons (tUn tNegU (tC (.int 1))) tNil)))) (gName 12))
  (tSeq (tAsg (tTup (tCons (tVar 4) (tCons (tOp oSub (tVar 5) (tC (.int 1))) (tCons (tUn tNegU (tC (.int 1))) tNil)))) (gName 13))
  (tSeq (tAsg (tLst (tCons (tTup (tCons (tVar 12) (tCons (tVar 13) (tCons (tC (.int 0)) (tCons (tUn tNegU (tC (.int 1))) tNil))))) tNil)) (gName 14))
  (tSeq (tAsg (tLst tNil) (gName 15))
  (tSeq (tFor (iEnum K (tCons (tMeth C "clocks_of" (sp_clocksOf K C) [] E0 (tVar 0) (tCons (tVar 4) tNil)) tNil)) (gTup K 2 (gCons (gName 16) (gCons (gName 17) gNil))) (tSeq (tAsg (tOp (rIx K) (tFld K (tVar 0) "clocks") (tVar 17)) (gName 18))
  (tSeq (tAsg (tOp (rIx K) (tVar 2) (tVar 16)) (gName 19))
  (tSeq (tAsg (tTup (tCons (tOp (rIx K) (tOp (rIx K) (tOp (rIx K) (tVar 18) (tC (.int 3))) (tOp (rIx K) (tVar 19) (tC (.int 2)))) (tC (.int 1))) (tCons (tOp (rIx K) (tOp (rIx K) (tOp (rIx K) (tVar 18) (tC (.int 3))) (tOp (rIx K) (tVar 19) (tC (.int 2)))) (tC (.int 2))) (tCons (tVar 17) tNil)))) (gName 20))
  (tSeq (tAsg (tOrV (tAndV (tVar 7) (tNotV (tOp (rIx K) (tVar 18) (tC (.int 2))))) (tOp (rEqD K) (tOp (rIx K) (tVar 10) (tC (.int 0))) (tC (.str "anew")))) (gName 21))
  (tSeq (tAsg (tTup (tCons (tVar 4) (tCons (tVar 5) (tCons (tVar 17) tNil)))) (gName 22))
  (tSeq (tAsg (tCall (sp_clockBounds K C) [] E0 (tCons (tVar 20) (tCons (tVar 19) (tCons (tVar 21) (tCons (tVar 22) (tCons (tVar 12) (tCons (tVar 13) (tCons (tOp (rIx K) (tVar 8) (tVar 16)) tNil)))))))) (gTup K 2 (gCons (gName 23) (gCons (gName 24) gNil))))
  (tSeq (tAsg (tOp rCat (tVar 14) (tVar 23)) (gName 14))
  (tSeq (tAsg (tTup (tCons (tVar 24) (tCons (tOp (rIx K) (tVar 8) (tVar 16)) (tCons (tOp (rIx K) (tVar 19) (tC (.int 2))) tNil)))) (gName 25))
  (tDrop (tBM K "list" rAppend (tVar 15) (tCons (tCall (sp_handAfter K C) [] E0 (tCons (tVar 10) (tCons (tVar 17) (tCons (tVar 16) (tCons (tVar 12) (tCons (tVar 25) (tCons (tVar 6) (tCons (tOp (rIx K) (tVar 9) (tVar 16)) tNil)))))))) tNil))))))))))))
  (tRet (tTup (tCons (tOp rCat (tVar 14) (tCall (sp_deedBounds K C) [] E0 (tCons (tVar 0) (tCons (tVar 12) (tCons (tVar 10) (tCons (tVar 3) tNil)))))) (tCons (tVar 15) tNil)))))))))))
def t_viewBounds (K : Fg) (C : Addr) : TS :=
  (tSeq (tAsg (tLst tNil) (gName 2))
  (tSeq (tFor (iEnum K (tCons (tVar 1) tNil)) (gTup K 2 (gCons (gName 3) (gCons (gName 4) gNil))) (tSeq (tAsg (tCall (sp_firstHands K C) [] E0 (tCons (tVar 0) (tCons (tVar 3) tNil))) (gName 5))
  (tFor (iRng2 (tCons (tC (.int 1)) (tCons (tCB (rLen3 K) (tCons (tVar 4) tNil)) tNil))) (gName 6) (tSeq (tAsg (tOp (rIx K) (tVar 4) (tVar 6)) (gName 7))
  (tSeq (tAsg (tCall (sp_sentKind K C) [] E0 (tCons (tVar 1) (tCons (tVar 0) (tCons (tOp (rIx K) (tVar 7) (tC (.int 3))) tNil)))) (gName 8))
  (tSeq (tAsg (tCall (sp_eventBounds K C) [] E0 (tCons (tVar 0) (tCons (tTup (tCons (tVar 3) (tCons (tVar 6) (tCons (tVar 7) tNil)))) (tCons (tVar 5) (tCons (tVar 8) tNil))))) (gTup K 2 (gCons (gName 9) (gCons (gName 5) gNil))))
  (tAsg (tOp rCat (tVar 2) (tVar 9)) (gName 2))))))))
  (tRet (tVar 2))))
def t_lawKind (K : Fg) (C : Addr) : TS :=
  (tSeq (tIfS (tTest (tOp (rEqD K) (tOp (rIx K) (tVar 0) (tC (.int 0))) (tC (.str "send")))) (tRet (tOp (rIx K) (tVar 0) (tC (.int 2)))) tNext)
  (tRet (tC .non)))
def t_restDue (K : Fg) (C : Addr) : TS :=
  (tSeq (tAsg (tOp (rIx K) (tVar 2) (tC (.int 3))) (gName 4))
  (tSeq (tIfS (tTest (tOp (rEqD K) (tOp (rIx K) (tVar 4) (tC (.int 0))) (tC (.str "mark")))) (tSeq (tAsg (tOp (rIx K) (tOp (rIx K) (tOp (rIx K) (tFld K (tVar 0) "sources") (tOp (rIx K) (tVar 4) (tC (.int 1)))) (tC (.int 2))) (tOp (rIx K) (tVar 4) (tC (.int 2)))) (gName 5))
  (tSeq (tAsg (tOp oAdd (tOp oAdd (tCB (rLen3 K) (tCons (tFld K (tVar 0) "clocks") tNil)) (tC (.int 2))) (tOp (rIx K) (tVar 4) (tC (.int 1)))) (gName 6))
  (tRet (tLst (tCons (tTup (tCons (tTup (tCons (tUn tNegU (tC (.int 1))) (tCons (tC (.int 0)) (tCons (tUn tNegU (tC (.int 1))) tNil)))) (tCons (tVar 1) (tCons (tOp oAdd (tOp (rIx K) (tVar 4) (tC (.int 3))) (tOp (rIx K) (tVar 5) (tC (.int 2)))) (tCons (tVar 6) tNil))))) (tCons (tTup (tCons (tVar 1) (tCons (tTup (tCons (tUn tNegU (tC (.int 1))) (tCons (tC (.int 0)) (tCons (tUn tNegU (tC (.int 1))) tNil)))) (tCons (tOp oSub (tOp (rIx K) (tVar 5) (tC (.int 1))) (tOp (rIx K) (tVar 4) (tC (.int 3)))) (tCons (tVar 6) tNil))))) tNil)))))) tNext)
  (tSeq (tIfS (tTest (tOp (rNeD K) (tOp (rIx K) (tVar 4) (tC (.int 0))) (tC (.str "hear")))) (tRet (tLst tNil)) tNext)
  (tSeq (tAsg (tTup (tCons (tC (.int 0)) (tCons (tOp (rIx K) (tVar 4) (tC (.int 2))) (tCons (tUn tNegU (tC (.int 1))) tNil)))) (gName 7))
  (tSeq (tAsg (tLst (tCons (tTup (tCons (tVar 1) (tCons (tVar 7) (tCons (tC (.int 0)) (tCons (tUn tNegU (tC (.int 1))) tNil))))) tNil)) (gName 8))
  (tSeq (tIfS (tTest (tOp (rEqD K) (tOp (rIx K) (tVar 3) (tC (.int 0))) (tC (.str "send")))) (tSeq (tAsg (tOp (rIx K) (tOp (rIx K) (tOp (rIx K) (tFld K (tVar 0) "links") (tC (.int 0))) (tC (.int 3))) (tOp (rIx K) (tVar 3) (tC (.int 2)))) (gName 5))
  (tSeq (tDrop (tBM K "list" rAppend (tVar 8) (tCons (tTup (tCons (tVar 1) (tCons (tVar 7) (tCons (tOp oSub (tC (.int 0)) (tOp (rIx K) (tVar 5) (tC (.int 1)))) (tCons (tCB (rLen3 K) (tCons (tFld K (tVar 0) "clocks") tNil)) tNil))))) tNil)))
  (tIfS (tTest (tOp oNotN (tOp (rIx K) (tVar 5) (tC (.int 2))) (tC .non))) (tDrop (tBM K "list" rAppend (tVar 8) (tCons (tTup (tCons (tVar 7) (tCons (tVar 1) (tCons (tOp (rIx K) (tVar 5) (tC (.int 2))) (tCons (tCB (rLen3 K) (tCons (tFld K (tVar 0) "clocks") tNil)) tNil))))) tNil))) tNext))) tNext)
  (tRet (tVar 8))))))))
def t_clockDue_tail (K : Fg) (C : Addr) : TS :=
  (tSeq (tAsg (tTup (tCons (tVar 10) (tCons (tVar 9) (tCons (tOp (rIx K) (tVar 1) (tC (.int 2))) tNil)))) (gName 14))
  (tSeq (tIfS (tTest (tOp (rEqD K) (tOp (rIx K) (tOp (rIx K) (tVar 4) (tC (.int 3))) (tC (.int 0))) (tC (.str "anew")))) (tAsg (tTup (tCons (tVar 3) (tCons (tOp (rIx K) (tOp (rIx K) (tVar 4) (tC (.int 2))) (tVar 5)) (tCons (tOp (rIx K) (tOp (rIx K) (tOp (rIx K) (tVar 4) (tC (.int 3))) (tC (.int 1))) (tVar 5)) tNil)))) (gName 14)) (tIfS (tAnd (tTest (tOp (rEqD K) (tOp (rIx K) (tOp (rIx K) (tVar 4) (tC (.int 3))) (tC (.int 0))) (tC (.str "kind")))) (tTest (tOp (rEqD K) (tOp (rIx K) (tOp (rIx K) (tVar 4) (tC (.int 3))) (tC (.int 1))) (tVar 2)))) (tAsg (tTup (tCons (tVar 3) (tCons (tOp (rIx K) (tOp (rIx K) (tVar 4) (tC (.int 2))) (tVar 5)) (tCons (tOp (rIx K) (tOp (rIx K) (tVar 4) (tC (.int 3))) (tC (.int 2))) tNil)))) (gName 14)) (tIfS (tTest (tOp (rNeD K) (tOp (rIx K) (tOp (rIx K) (tVar 4) (tC (.int 2))) (tVar 5)) (tVar 9))) (tAsg (tTup (tCons (tVar 3) (tCons (tOp (rIx K) (tOp (rIx K) (tVar 4) (tC (.int 2))) (tVar 5)) (tCons (tOp (rIx K) (tVar 1) (tC (.int 2))) tNil)))) (gName 14)) tNext)))
  (tRet (tTup (tCons (tVar 11) (tCons (tVar 14) tNil))))))
def t_clockDue (K : Fg) (C : Addr) : TS :=
  (tSeq (tAsg (tOp (rIx K) (tVar 1) (tC (.int 0))) (gName 6))
  (tSeq (tAsg (tOp (rIx K) (tOp (rIx K) (tOp (rIx K) (tOp (rIx K) (tFld K (tVar 0) "clocks") (tVar 2)) (tC (.int 3))) (tOp (rIx K) (tVar 1) (tC (.int 2)))) (tC (.int 1))) (gName 7))
  (tSeq (tAsg (tOp (rIx K) (tOp (rIx K) (tOp (rIx K) (tOp (rIx K) (tFld K (tVar 0) "clocks") (tVar 2)) (tC (.int 3))) (tOp (rIx K) (tVar 1) (tC (.int 2)))) (tC (.int 2))) (gName 8))
  (tSeq (tAsg (tOp (rIx K) (tOp (rIx K) (tVar 4) (tC (.int 1))) (tVar 5)) (gName 9))
  (tSeq (tAsg (tTup (tCons (tOp (rIx K) (tVar 3) (tC (.int 0))) (tCons (tOp (rIx K) (tVar 3) (tC (.int 1))) (tCons (tVar 2) tNil)))) (gName 10))
  (tSeq (tAsg (tLst tNil) (gName 11))
  (tSeq (tAsg (tAndV (tOp (rNeD K) (tOp (rIx K) (tOp (rIx K) (tVar 4) (tC (.int 3))) (tC (.int 0))) (tC (.str "anew"))) (tOrV (tOp (rIx K) (tOp (rIx K) (tFld K (tVar 0) "clocks") (tVar 2)) (tC (.int 2))) (tNotV (tOp (rIx K) (tVar 4) (tC (.int 0)))))) (gName 12))
  (tSeq (tIfS (tAnd (tTest (tOp oNotN (tVar 6) (tC .non))) (tAnd (tB (tVar 12)) (tTest (tOp (rEqD K) (tVar 9) (tOp (rIx K) (tVar 1) (tC (.int 1))))))) (tAsg (tVar 6) (gName 10)) (tIfS (tAnd (tTest (tOp oNotN (tVar 6) (tC .non))) (tB (tVar 12))) (tSeq (tAsg (tOp oSub (tVar 9) (tOp (rIx K) (tVar 1) (tC (.int 1)))) (gName 13))
  (tSeq (tAsg (tLst (tCons (tTup (tCons (tVar 6) (tCons (tVar 10) (tCons (tOp oMul (tVar 8) (tVar 13)) (tCons (tVar 2) tNil))))) (tCons (tTup (tCons (tVar 10) (tCons (tVar 6) (tCons (tOp oSub (tC (.int 0)) (tOp oMul (tVar 7) (tVar 13))) (tCons (tVar 2) tNil))))) (tCons (tTup (tCons (tVar 10) (tCons (tVar 6) (tCons (tC (.int 0)) (tCons (tVar 2) tNil))))) tNil)))) (gName 11))
  (tDrop (tBM K "list" rAppend (tVar 11) (tCons (tTup (tCons (tVar 10) (tCons (tTup (tCons (tOp (rIx K) (tVar 3) (tC (.int 0))) (tCons (tOp oSub (tOp (rIx K) (tVar 3) (tC (.int 1))) (tC (.int 1))) (tCons (tUn tNegU (tC (.int 1))) tNil)))) (tCons (tOp oSub (tVar 7) (tOp oMul (tVar 7) (tVar 13))) (tCons (tVar 2) tNil))))) tNil))))) tNext))
  (tSeq (tAsg (tOp rCat (tVar 11) (tLst (tCons (tTup (tCons (tVar 10) (tCons (tVar 3) (tCons (tVar 8) (tCons (tVar 2) tNil))))) (tCons (tTup (tCons (tVar 3) (tCons (tVar 10) (tCons (tC (.int 0)) (tCons (tVar 2) tNil))))) tNil)))) (gName 11))
  (t_clockDue_tail K C))))))))))
end W3

/-! ## LayX -/
namespace W3
open PySem L2
/-! ### the rules in the form that a step takes: data by equations -/
section
variable {c : Cn} {γ : List En} {P : PyData → Prop} {d d1 d2 : PyData} {te ta tb : TE}
theorem x_add {i j : Int} (e1 : d1 = .int i) (e2 : d2 = .int j) (p : P (.int (i + j))) : RD c γ oAdd d1 d2 P := by subst e1 e2; exact r_add p
theorem x_sub {i j : Int} (e1 : d1 = .int i) (e2 : d2 = .int j) (p : P (.int (i - j))) : RD c γ oSub d1 d2 P := by subst e1 e2; exact r_sub p
theorem x_mul {i j : Int} (e1 : d1 = .int i) (e2 : d2 = .int j) (hc : CMul i j) (p : P (.int (i * j))) : RD c γ oMul d1 d2 P := by subst e1 e2; exact r_mul hc p
theorem x_mod {i j : Int} (e1 : d1 = .int i) (e2 : d2 = .int j) (hc : 0 < j) (p : P (.int (i % j))) : RD c γ oMod d1 d2 P := by subst e1 e2; exact r_mod hc p
theorem x_div {i j : Int} (e1 : d1 = .int i) (e2 : d2 = .int j) (hc : CDiv i j) (p : P (.int (i / j))) : RD c γ oDiv d1 d2 P := by subst e1 e2; exact r_div hc p
theorem x_lt {i j : Int} (e1 : d1 = .int i) (e2 : d2 = .int j) (p : P (.bool (decide (i < j)))) : RD c γ oLt d1 d2 P := by subst e1 e2; exact r_lt p
theorem x_gt {i j : Int} (e1 : d1 = .int i) (e2 : d2 = .int j) (p : P (.bool (decide (j < i)))) : RD c γ oGt d1 d2 P := by subst e1 e2; exact r_gt p
theorem x_ixT {ds : List PyData} {i : Int} (e1 : d1 = .tuple ds) (e2 : d2 = .int i) (e : datI ds i = some d) (p : P d) : RD c γ (rIx c.K) d1 d2 P := by subst e1 e2; exact r_ixT e p
theorem x_ixL {ds : List PyData} {i : Int} (e1 : d1 = .list ds) (e2 : d2 = .int i) (e : datI ds i = some d) (p : P d) : RD c γ (rIx c.K) d1 d2 P := by subst e1 e2; exact r_ixL e p
theorem x_eqI {i j : Int} (e1 : d1 = .int i) (e2 : d2 = .int j) (p : P (.bool (decide (i = j)))) : RD c γ (rEqD c.K) d1 d2 P := by subst e1 e2; exact r_eqI p
theorem x_neI {i j : Int} (e1 : d1 = .int i) (e2 : d2 = .int j) (p : P (.bool (!decide (i = j)))) : RD c γ (rNeD c.K) d1 d2 P := by subst e1 e2; exact r_neI p
theorem x_eqS {x y : Str} (e1 : d1 = .str x) (e2 : d2 = .str y) (h1 : PySem.PyData.strOk x = true) (h2 : PySem.PyData.strOk y = true) {b : Bool} (h : decide (x = y) = b) (p : P (.bool b)) : RD c γ (rEqD c.K) d1 d2 P := by subst e1 e2 h; exact r_eqS h1 h2 p
theorem x_neS {x y : Str} (e1 : d1 = .str x) (e2 : d2 = .str y) (h1 : PySem.PyData.strOk x = true) (h2 : PySem.PyData.strOk y = true) {b : Bool} (h : (!decide (x = y)) = b) (p : P (.bool b)) : RD c γ (rNeD c.K) d1 d2 P := by subst e1 e2 h; exact r_neS h1 h2 p
theorem x_notN {b : Bool} (e : d2 = .none) (h : (!isNo d1) = b) (p : P (.bool b)) : RD c γ oNotN d1 d2 P := by subst e h; exact r_notN p
theorem x_catS {x y : Str} (e1 : d1 = .str x) (e2 : d2 = .str y) (hl : x.length + y.length ≤ sizeLine) (p : P (.str (x ++ y))) : RD c γ oCatS d1 d2 P := by subst e1 e2; exact r_catS hl p
/-! and, or, not of values, without a fork -/
theorem v_and {a b : Bool} (ha : wpE c ta γ fun d => d = .bool a) (hb : wpE c tb γ fun d => d = .bool b) (p : P (.bool (a && b))) : wpE c (tAndV ta tb) γ P :=
  e_and (wpE_mono ha fun d e => ⟨a, e, fun z => wpE_mono hb fun d2 e2 => by subst e2 z; exact p, fun z => by subst z; exact p⟩)
theorem v_or {a b : Bool} (ha : wpE c ta γ fun d => d = .bool a) (hb : wpE c tb γ fun d => d = .bool b) (p : P (.bool (a || b))) : wpE c (tOrV ta tb) γ P :=
  e_or (wpE_mono ha fun d e => ⟨a, e, fun z => by subst z; exact p, fun z => wpE_mono hb fun d2 e2 => by subst e2 z; exact p⟩)
/-! a deed by its word -/
def tagD : Dd → Str
  | .note => "note"
  | .kind _ _ => "kind"
  | .anew _ => "anew"
  | .mark _ _ _ => "mark"
  | .send _ => "send"
  | .tell => "tell"
  | .hear _ => "hear"
  | .commit _ => "commit"
def restD : Dd → List PyData
  | .note => []
  | .kind c k => [.int c, .int (bi k)]
  | .anew ks => [.tuple (ks.map fun k => .int (bi k))]
  | .mark s k v => [.int s, .int (bi k), .int v]
  | .send k => [.int 0, .int (bi k)]
  | .tell => [.int 0]
  | .hear n => [.int 0, .int n]
  | .commit x => [.int x]
theorem dd_eq (d : Dd) : d.d = .tuple (.str (tagD d) :: restD d) := by cases d <;> rfl
theorem tag_ok (d : Dd) : PySem.PyData.strOk (tagD d) = true := by cases d <;> (dsimp only [tagD]; decide +kernel)
theorem tag_anew : ∀ d : Dd, decide (tagD d = "anew") = isAnew d
  | .note => (show decide (("note" : Str) = "anew") = false by decide +kernel)
  | .kind _ _ => (show decide (("kind" : Str) = "anew") = false by decide +kernel)
  | .anew _ => (show decide (("anew" : Str) = "anew") = true by decide +kernel)
  | .mark _ _ _ => (show decide (("mark" : Str) = "anew") = false by decide +kernel)
  | .send _ => (show decide (("send" : Str) = "anew") = false by decide +kernel)
  | .tell => (show decide (("tell" : Str) = "anew") = false by decide +kernel)
  | .hear _ => (show decide (("hear" : Str) = "anew") = false by decide +kernel)
  | .commit _ => (show decide (("commit" : Str) = "anew") = false by decide +kernel)
def isKind : Dd → Bool
  | .kind _ _ => true
  | _ => false
theorem tag_kind : ∀ d : Dd, decide (tagD d = "kind") = isKind d
  | .note => (show decide (("note" : Str) = "kind") = false by decide +kernel)
  | .kind _ _ => (show decide (("kind" : Str) = "kind") = true by decide +kernel)
  | .anew _ => (show decide (("anew" : Str) = "kind") = false by decide +kernel)
  | .mark _ _ _ => (show decide (("mark" : Str) = "kind") = false by decide +kernel)
  | .send _ => (show decide (("send" : Str) = "kind") = false by decide +kernel)
  | .tell => (show decide (("tell" : Str) = "kind") = false by decide +kernel)
  | .hear _ => (show decide (("hear" : Str) = "kind") = false by decide +kernel)
  | .commit _ => (show decide (("commit" : Str) = "kind") = false by decide +kernel)
/-- the slots written out -/
theorem s_nrm {γ' : List En} {t : TS} {N : List En → Prop} {R : Rt → List En → Prop} (e : γ = γ') (h : wpS c t γ' N R) : wpS c t γ N R := e ▸ h
/-! the calls -/
theorem k_within {tl : TA} {P : List PyData → Prop} (h : wpA c tl γ fun as => ∃ x y lo hi part, as = [.d (Pt.d x), .d (Pt.d y), .d (.int lo), .d (.int hi), .d (.int part)] ∧ P ((within x y lo hi part).map Bd.d)) : wpN c (tCall (sp_within c.K c.C) [] E0 tl) γ P :=
  n_callL fun σ G H s Q q => h σ G H s Q fun vs as G' H' p => by
    obtain ⟨x, y, lo, hi, part, e, p⟩ := p
    exact q vs as G' H' ⟨⟨x, y, lo, hi, part⟩, e, rfl, trivial, fun d e => by subst e; exact p⟩
theorem k_toldKind {tl : TA} {P : PyData → Prop} (h : wpA c tl γ fun as => ∃ (deed : Dd) (clock : Nat) (place : Nat), as = [.d (Dd.d deed), .d (.int clock), .d (.int place)] ∧ (okAnew deed place) ∧ P (optB (toldK deed clock place))) : wpE c (tCall (sp_toldKind c.K c.C) [] E0 tl) γ P :=
  e_callP fun σ G H s Q q => h σ G H s Q fun vs as G' H' p => by
    obtain ⟨deed, clock, place, eq_, hp, p⟩ := p
    exact q vs as G' H' ⟨⟨deed, clock, place⟩, eq_, rfl, hp, fun d e => by subst e; exact p⟩
theorem k_sentKind {tl : TA} {P : PyData → Prop} (h : wpA c tl γ fun as => ∃ (f : FrD) (v0 : List Ev) (v1 : List Ev) (deed : Dd), as = [.d (viewD v0 v1), .f f.fr, .d (Dd.d deed)] ∧ (FrOk f ∧ ∀ n, deed = .hear n → n < v0.length) ∧ P (optB (kindOf v0 deed))) : wpE c (tCall (sp_sentKind c.K c.C) [] E0 tl) γ P :=
  e_callP fun σ G H s Q q => h σ G H s Q fun vs as G' H' p => by
    obtain ⟨f, v0, v1, deed, eq_, hp, p⟩ := p
    exact q vs as G' H' ⟨⟨f, v0, v1, deed⟩, eq_, rfl, hp, fun d e => by subst e; exact p⟩
theorem k_handAfter {tl : TA} {P : PyData → Prop} (h : wpA c tl γ fun as => ∃ (deed : Dd) (clock : Nat) (place : Nat) (point : Pt) (hand : Hd) (e : Ev) (after : Int), as = [.d (Dd.d deed), .d (.int clock), .d (.int place), .d (Pt.d point), .d (Hd.d hand), .d (Ev.d e), .d (.int after)] ∧ (okAnew deed place) ∧ P (Hd.d (handA deed clock place point hand after))) : wpE c (tCall (sp_handAfter c.K c.C) [] E0 tl) γ P :=
  e_callP fun σ G H s Q q => h σ G H s Q fun vs as G' H' p => by
    obtain ⟨deed, clock, place, point, hand, e, after, eq_, hp, p⟩ := p
    exact q vs as G' H' ⟨⟨deed, clock, place, point, hand, e, after⟩, eq_, rfl, hp, fun d e => by subst e; exact p⟩
theorem k_clockBounds {tl : TA} {P : PyData → Prop} (h : wpA c tl γ fun as => ∃ (lo : Int) (hi : Int) (part : Int) (h : Hd) (st : Bool) (tick : Pt) (ev : Pt) (before : Pt) (shown : Int), as = [.d (.tuple [.int lo, .int hi, .int part]), .d (Hd.d h), .d (.bool st), .d (Pt.d tick), .d (Pt.d ev), .d (Pt.d before), .d (.int shown)] ∧ (sm64 lo ∧ sm64 hi) ∧ P ((.tuple [.list ((clockB lo hi part h st tick ev before shown).1.map Bd.d), Pt.d (clockB lo hi part h st tick ev before shown).2]))) : wpE c (tCall (sp_clockBounds c.K c.C) [] E0 tl) γ P :=
  e_callP fun σ G H s Q q => h σ G H s Q fun vs as G' H' p => by
    obtain ⟨lo, hi, part, h, st, tick, ev, before, shown, eq_, hp, p⟩ := p
    exact q vs as G' H' ⟨⟨lo, hi, part, h, st, tick, ev, before, shown⟩, eq_, rfl, hp, fun d e => by subst e; exact p⟩
theorem k_deedBounds {tl : TA} {P : List PyData → Prop} (h : wpA c tl γ fun as => ∃ (f : FrD) (here : Pt) (deed : Dd) (kind : Option Bool), as = [.f f.fr, .d (Pt.d here), .d (Dd.d deed), .d (optB kind)] ∧ (FrOk f ∧ okMark f deed) ∧ P ((deedB f here deed kind).map Bd.d)) : wpN c (tCall (sp_deedBounds c.K c.C) [] E0 tl) γ P :=
  n_callL fun σ G H s Q q => h σ G H s Q fun vs as G' H' p => by
    obtain ⟨f, here, deed, kind, eq_, hp, p⟩ := p
    exact q vs as G' H' ⟨⟨f, here, deed, kind⟩, eq_, rfl, hp, fun d e => by subst e; exact p⟩
theorem k_eventBounds {tl : TA} {P : PyData → Prop} (h : wpA c tl γ fun as => ∃ (f : FrD) (dev : Int) (n : Int) (e : Ev) (hands : List Hd) (kind : Option Bool), as = [.f f.fr, .d (.tuple [.int dev, .int n, Ev.d e]), .d (.list (hands.map Hd.d)), .d (optB kind)] ∧ (FrOk f ∧ (∃ v0, EvOk f v0 dev e) ∧ hands.length = (mine f.cks dev).length) ∧ P ((.tuple [.list ((eventB f dev n e hands kind).1.map Bd.d), .list ((eventB f dev n e hands kind).2.map Hd.d)]))) : wpE c (tCall (sp_eventBounds c.K c.C) [] E0 tl) γ P :=
  e_callP fun σ G H s Q q => h σ G H s Q fun vs as G' H' p => by
    obtain ⟨f, dev, n, e, hands, kind, eq_, hp, p⟩ := p
    exact q vs as G' H' ⟨⟨f, dev, n, e, hands, kind⟩, eq_, rfl, hp, fun d e => by subst e; exact p⟩
theorem k_lawKind {tl : TA} {P : PyData → Prop} (h : wpA c tl γ fun as => ∃ (deed : Dd), as = [.d (Dd.d deed)] ∧ (True) ∧ P (optB (sendK deed))) : wpE c (tCall (sp_lawKind c.K c.C) [] E0 tl) γ P :=
  e_callP fun σ G H s Q q => h σ G H s Q fun vs as G' H' p => by
    obtain ⟨deed, eq_, hp, p⟩ := p
    exact q vs as G' H' ⟨deed, eq_, rfl, hp, fun d e => by subst e; exact p⟩
theorem k_restDue {tl : TA} {P : List PyData → Prop} (h : wpA c tl γ fun as => ∃ (f : FrD) (here : Pt) (e : Ev) (word : Dd), as = [.f f.fr, .d (Pt.d here), .d (Ev.d e), .d (Dd.d word)] ∧ (FrOk f ∧ okMark f e.deed) ∧ P ((deedB f here e.deed (sendK word)).map Bd.d)) : wpN c (tCall (sp_restDue c.K c.C) [] E0 tl) γ P :=
  n_callL fun σ G H s Q q => h σ G H s Q fun vs as G' H' p => by
    obtain ⟨f, here, e, word, eq_, hp, p⟩ := p
    exact q vs as G' H' ⟨⟨f, here, e, word⟩, eq_, rfl, hp, fun d e => by subst e; exact p⟩
theorem k_clockDue {tl : TA} {P : PyData → Prop} (h : wpA c tl γ fun as => ∃ (f : FrD) (h : Hd) (k : Nat) (dev : Int) (n : Int) (e : Ev) (place : Nat), as = [.f f.fr, .d (Hd.d h), .d (.int k), .d (Pt.d (hereP dev n)), .d (Ev.d e), .d (.int place)] ∧ (FrOk f ∧ k < f.cks.length ∧ place < e.shown.length ∧ place < e.after.length ∧ okAnew e.deed place) ∧ P ((.tuple [.list ((clockAt (f.cks.getD k default) dev n e k place h).1.map Bd.d), Hd.d (clockAt (f.cks.getD k default) dev n e k place h).2]))) : wpE c (tCall (sp_clockDue c.K c.C) [] E0 tl) γ P :=
  e_callP fun σ G H s Q q => h σ G H s Q fun vs as G' H' p => by
    obtain ⟨f, h, k, dev, n, e, place, eq_, hp, p⟩ := p
    exact q vs as G' H' ⟨⟨f, h, k, dev, n, e, place⟩, eq_, rfl, hp, fun d e => by subst e; exact p⟩
theorem k_viewBounds {tl : TA} {P : PyData → Prop} (h : wpA c tl γ fun as => ∃ (f : FrD) (v0 : List Ev) (v1 : List Ev), as = [.f f.fr, .d (viewD v0 v1)] ∧ (ViewOk f v0 v1) ∧ P ((.list ((allB f v0 v1).map Bd.d)))) : wpE c (tCall (sp_viewBounds c.K c.C) [] E0 tl) γ P :=
  e_callP fun σ G H s Q q => h σ G H s Q fun vs as G' H' p => by
    obtain ⟨f, v0, v1, eq_, hp, p⟩ := p
    exact q vs as G' H' ⟨⟨f, v0, v1⟩, eq_, rfl, hp, fun d e => by subst e; exact p⟩
theorem k_firstHands {tl : TA} {P : List PyData → Prop} (h : wpA c tl γ fun as => ∃ (f : FrD) (n : Int), as = [.f f.fr, .d (.int n)] ∧ (FrOk f) ∧ P ((hands0 f n).map Hd.d)) : wpN c (tCall (sp_firstHands c.K c.C) [] E0 tl) γ P :=
  n_callL fun σ G H s Q q => h σ G H s Q fun vs as G' H' p => by
    obtain ⟨f, n, eq_, hp, p⟩ := p
    exact q vs as G' H' ⟨⟨f, n⟩, eq_, rfl, hp, fun d e => by subst e; exact p⟩
/-! the frame's methods -/
theorem k_clocksOf {i : Nat} {f : FrD} {tl : TA} {P : List PyData → Prop} (hi : γ[i]? = some (.fr f.fr)) (ok : FrOk f) (h : wpA c tl γ fun as => ∃ n : Int, as = [.d (.int n)] ∧ P ((mine f.cks n).map fun k : Nat => PyData.int (k : Int))) : wpN c (tMeth c.C "clocks_of" (sp_clocksOf c.K c.C) [] E0 (tVar i) tl) γ P :=
  n_methL hi (.inl rfl) fun σ G H s Q q => h σ G H s Q fun vs as G' H' p => by
    obtain ⟨n, e, p⟩ := p
    exact q vs as G' H' ⟨⟨f, n⟩, by rw [e], rfl, ok, fun d e => by subst e; exact p⟩
theorem k_linkPart {i : Nat} {f : FrD} {tl : TA} {P : PyData → Prop} (hi : γ[i]? = some (.fr f.fr)) (h : wpA c tl γ fun as => ∃ n : Int, as = [.d (.int n)] ∧ P (.int (f.cks.length + n))) : wpE c (tMeth c.C "link_part" (sp_linkPart c.K c.C) [] E0 (tVar i) tl) γ P :=
  e_methP hi (.inr (.inl rfl)) fun σ G H s Q q => h σ G H s Q fun vs as G' H' p => by
    obtain ⟨n, e, p⟩ := p
    exact q vs as G' H' ⟨⟨f, n⟩, by rw [e], rfl, trivial, fun d e => by subst e; exact p⟩
theorem k_sourcePart {i : Nat} {f : FrD} {tl : TA} {P : PyData → Prop} (hi : γ[i]? = some (.fr f.fr)) (h : wpA c tl γ fun as => ∃ n : Int, as = [.d (.int n)] ∧ P (.int (f.cks.length + 2 + n))) : wpE c (tMeth c.C "source_part" (sp_sourcePart c.K c.C) [] E0 (tVar i) tl) γ P :=
  e_methP hi (.inr (.inr rfl)) fun σ G H s Q q => h σ G H s Q fun vs as G' H' p => by
    obtain ⟨n, e, p⟩ := p
    exact q vs as G' H' ⟨⟨f, n⟩, by rw [e], rfl, trivial, fun d e => by subst e; exact p⟩
end
end W3

/-! ## LayS1 -/
namespace W3
open PySem L2
/-- one step: the reading's head tells the rule; what it asks of data is shown by computing -/
local macro_rules | `(tactic| walk_at "w3") => `(tactic| first
  | with_reducible refine s_seq ?_
  | ((with_reducible refine' e_var ?h ?_); (case h => exact rfl))
  | with_reducible refine e_int ?_
  | with_reducible refine e_str ?_
  | with_reducible refine e_non ?_
  | with_reducible refine e_bl ?_
  | with_reducible refine d_nil ?_
  | with_reducible refine d_cons ?_
  | with_reducible refine a_nil ?_
  | ((with_reducible refine' a_f ?h ?_); (case h => exact rfl))
  | with_reducible refine a_d ?_
  | with_reducible refine e_tup ?_
  | ((with_reducible refine' e_neg ?_))
  | with_reducible refine e_new (n_lst ?_)
  | with_reducible refine e_new (n_cat ?_)
  | with_reducible refine e_new (k_within ?_)
  | with_reducible refine k_within ?_
  | with_reducible refine n_lst ?_
  | with_reducible refine n_cat ?_
  | with_reducible refine e_op ?_
  | ((with_reducible refine' x_add ?a ?b ?_); (case a => exact rfl); (case b => exact rfl))
  | ((with_reducible refine' x_sub ?a ?b ?_); (case a => exact rfl); (case b => exact rfl))
  | ((with_reducible refine' x_ixT ?a ?b ?e ?_); (case a => exact rfl); (case b => exact rfl); (case e => exact rfl))
  | ((with_reducible refine' x_ixL ?a ?b ?e ?_); (case a => exact rfl); (case b => exact rfl); (case e => exact rfl))
  | ((with_reducible refine' x_eqI ?a ?b ?_); (case a => exact rfl); (case b => exact rfl))
  | ((with_reducible refine' x_neI ?a ?b ?_); (case a => exact rfl); (case b => exact rfl))
  | ((with_reducible refine' x_eqS (b := true) ?a ?b ?e ?f ?g ?_); (case a => exact rfl); (case b => exact rfl); (case e => decide +kernel); (case f => decide +kernel); (case g => decide +kernel))
  | ((with_reducible refine' x_eqS (b := false) ?a ?b ?e ?f ?g ?_); (case a => exact rfl); (case b => exact rfl); (case e => decide +kernel); (case f => decide +kernel); (case g => decide +kernel))
  | ((with_reducible refine' x_neS (b := true) ?a ?b ?e ?f ?g ?_); (case a => exact rfl); (case b => exact rfl); (case e => decide +kernel); (case f => decide +kernel); (case g => decide +kernel))
  | ((with_reducible refine' x_neS (b := false) ?a ?b ?e ?f ?g ?_); (case a => exact rfl); (case b => exact rfl); (case e => decide +kernel); (case f => decide +kernel); (case g => decide +kernel))
  | ((with_reducible refine' x_notN (b := true) ?a ?b ?_); (case a => exact rfl); (case b => exact rfl))
  | ((with_reducible refine' x_notN (b := false) ?a ?b ?_); (case a => exact rfl); (case b => exact rfl))
  | with_reducible refine t_test ?_
  | with_reducible refine t_B ?_
  | with_reducible refine t_and ?_
  | with_reducible refine t_or ?_
  | with_reducible refine t_not ?_
  | with_reducible refine t_yes ?_
  | with_reducible refine e_and ?_
  | with_reducible refine e_or ?_
  | with_reducible refine e_not ?_
  | with_reducible refine e_if ?_
  | with_reducible refine e_len ?_
  | with_reducible refine e_int1 ?_
  | with_reducible refine s_if ?_
  | with_reducible refine s_set ?_
  | with_reducible refine s_ret ?_
  | with_reducible refine s_next ?_
  | with_reducible refine g_name ?_
  | ((with_reducible refine' ⟨_, ?e, ?_⟩); (case e => exact rfl))
  | with_reducible refine ⟨Nat.le_of_ble_eq_true rfl, ?_⟩
  | with_reducible refine ⟨fun _ => ?_, fun h => (nomatch (show true = false from h))⟩
  | with_reducible refine ⟨fun h => (nomatch (show false = true from h)), fun _ => ?_⟩)
local macro_rules | `(tactic| walk_at "ws") => `(tactic| repeat (walk_at "w3"))
theorem wp_within (c : Cn) (x y : Pt) (lo hi part : Int) : wpS c (t_within c.K c.C) (gam [.d x.d, .d y.d, .d (.int lo), .d (.int hi), .d (.int part)] 0) (fun _ => False) fun r _ => ∃ ds, r = .l ds ∧ ds = (within x y lo hi part).map Bd.d := by
  unfold t_within
  refine s_retN ?_
  walk_at "ws"
  rfl
theorem wp_toldKind (c : Cn) (deed : Dd) (clock place : Nat) (hp : okAnew deed place) : wpS c (t_toldKind c.K c.C) (gam [.d deed.d, .d (.int clock), .d (.int place)] 0) (fun _ => False) fun r _ => ∃ d, r = .d d ∧ d = optB (toldK deed clock place) := by
  unfold t_toldKind
  cases deed with
  | kind cc k =>
    walk_at "ws"
    refine ⟨fun h => ?_, fun h => ?_⟩
    · walk_at "ws"
      have e : cc = clock := by have := of_decide_eq_true h; omega
      show _ = optB (if cc = clock then some k else none)
      rw [if_pos e]
      rfl
    · walk_at "ws"
      have e : ¬ cc = clock := by have := of_decide_eq_false h; omega
      show _ = optB (if cc = clock then some k else none)
      rw [if_neg e]
      rfl
  | anew ks =>
    walk_at "ws"
    refine x_ixT rfl rfl (datI_getD false (hp ks rfl)) ?_
    walk_at "ws"
    rfl
  | _ =>
    walk_at "ws"
    rfl
end W3

/-! ## LayS2 -/
namespace W3
open PySem L2
/-- one step: the reading's head tells the rule; what it asks of data is shown by computing -/
local macro_rules | `(tactic| walk_at "w3") => `(tactic| first
  | with_reducible refine s_seq ?_
  | ((with_reducible refine' e_var ?h ?_); (case h => exact rfl))
  | with_reducible refine e_int ?_
  | with_reducible refine e_str ?_
  | with_reducible refine e_non ?_
  | with_reducible refine e_bl ?_
  | with_reducible refine d_nil ?_
  | with_reducible refine d_cons ?_
  | with_reducible refine a_nil ?_
  | ((with_reducible refine' a_f ?h ?_); (case h => exact rfl))
  | with_reducible refine a_d ?_
  | with_reducible refine e_tup ?_
  | ((with_reducible refine' e_neg ?_))
  | with_reducible refine e_new (n_lst ?_)
  | with_reducible refine e_new (n_cat ?_)
  | with_reducible refine e_new (k_within ?_)
  | with_reducible refine k_within ?_
  | with_reducible refine n_lst ?_
  | with_reducible refine n_cat ?_
  | with_reducible refine e_op ?_
  | ((with_reducible refine' x_add ?a ?b ?_); (case a => exact rfl); (case b => exact rfl))
  | ((with_reducible refine' x_sub ?a ?b ?_); (case a => exact rfl); (case b => exact rfl))
  | ((with_reducible refine' x_ixT ?a ?b ?e ?_); (case a => exact rfl); (case b => exact rfl); (case e => exact rfl))
  | ((with_reducible refine' x_ixL ?a ?b ?e ?_); (case a => exact rfl); (case b => exact rfl); (case e => exact rfl))
  | ((with_reducible refine' x_eqI ?a ?b ?_); (case a => exact rfl); (case b => exact rfl))
  | ((with_reducible refine' x_neI ?a ?b ?_); (case a => exact rfl); (case b => exact rfl))
  | ((with_reducible refine' x_eqS (b := true) ?a ?b ?e ?f ?g ?_); (case a => exact rfl); (case b => exact rfl); (case e => decide +kernel); (case f => decide +kernel); (case g => decide +kernel))
  | ((with_reducible refine' x_eqS (b := false) ?a ?b ?e ?f ?g ?_); (case a => exact rfl); (case b => exact rfl); (case e => decide +kernel); (case f => decide +kernel); (case g => decide +kernel))
  | ((with_reducible refine' x_neS (b := true) ?a ?b ?e ?f ?g ?_); (case a => exact rfl); (case b => exact rfl); (case e => decide +kernel); (case f => decide +kernel); (case g => decide +kernel))
  | ((with_reducible refine' x_neS (b := false) ?a ?b ?e ?f ?g ?_); (case a => exact rfl); (case b => exact rfl); (case e => decide +kernel); (case f => decide +kernel); (case g => decide +kernel))
  | ((with_reducible refine' x_notN (b := true) ?a ?b ?_); (case a => exact rfl); (case b => exact rfl))
  | ((with_reducible refine' x_notN (b := false) ?a ?b ?_); (case a => exact rfl); (case b => exact rfl))
  | with_reducible refine t_test ?_
  | with_reducible refine t_B ?_
  | with_reducible refine t_and ?_
  | with_reducible refine t_or ?_
  | with_reducible refine t_not ?_
  | with_reducible refine t_yes ?_
  | with_reducible refine e_and ?_
  | with_reducible refine e_or ?_
  | with_reducible refine e_not ?_
  | with_reducible refine e_if ?_
  | with_reducible refine e_len ?_
  | with_reducible refine e_int1 ?_
  | with_reducible refine s_if ?_
  | with_reducible refine s_set ?_
  | with_reducible refine s_ret ?_
  | with_reducible refine s_next ?_
  | with_reducible refine g_name ?_
  | ((with_reducible refine' ⟨_, ?e, ?_⟩); (case e => exact rfl))
  | ((with_reducible refine' ⟨_, _, _, _, _, ?e, ?_⟩); (case e => exact rfl))
  | ((with_reducible refine' ⟨_, _, ?a, ?b, ?e, ?_⟩); (case a => exact rfl); (case b => exact rfl); (case e => exact Nat.le_of_ble_eq_true rfl))
  | with_reducible refine ⟨Nat.le_of_ble_eq_true rfl, ?_⟩
  | with_reducible refine ⟨fun _ => ?_, fun h => (nomatch (show true = false from h))⟩
  | with_reducible refine ⟨fun h => (nomatch (show false = true from h)), fun _ => ?_⟩)
local macro_rules | `(tactic| walk_at "ws") => `(tactic| repeat (walk_at "w3"))
theorem kindOf_hear (v0 : List Ev) (n : Nat) : kindOf v0 (.hear n) = sendK (v0.getD n default).deed := rfl
theorem wp_linkPart (c : Cn) (T : Cls3 c.K c.C) (f : FrD) (n : Int) : wpS c (t_linkPart c.K c.C) (gam [.f f.fr, .d (.int n)] 0) (fun _ => False) fun r _ => ∃ d, r = .d d ∧ d = .int (f.cks.length + n) := by
  unfold t_linkPart
  walk_at "ws"
  refine e_clocks T rfl ?_
  walk_at "ws"
  show PyData.int (((f.cks.map Ck.d).length : Int) + n) = _
  rw [List.length_map]
theorem wp_sourcePart (c : Cn) (T : Cls3 c.K c.C) (f : FrD) (n : Int) : wpS c (t_sourcePart c.K c.C) (gam [.f f.fr, .d (.int n)] 0) (fun _ => False) fun r _ => ∃ d, r = .d d ∧ d = .int (f.cks.length + 2 + n) := by
  unfold t_sourcePart
  walk_at "ws"
  refine e_clocks T rfl ?_
  walk_at "ws"
  refine e_links T rfl ?_
  walk_at "ws"
  show PyData.int (((f.cks.map Ck.d).length : Int) + 2 + n) = _
  rw [List.length_map]
theorem wp_clocksOf (c : Cn) (T : Cls3 c.K c.C) (f : FrD) (n : Int) (ok : FrOk f) : wpS c (t_clocksOf c.K c.C) (gam [.f f.fr, .d (.int n)] 2) (fun _ => False) fun r _ => ∃ ds, r = .l ds ∧ ds = (mine f.cks n).map fun k : Nat => PyData.int (k : Int) := by
  unfold t_clocksOf
  refine s_retN (n_lc (js := [2, 3]) ?_ (fun j h => h) (i_enum ?_))
  · intro v hv
    have : v = 2 ∨ v = 3 := by simpa using hv
    rcases this with rfl | rfl <;> rfl
  walk_at "ws"
  refine e_clocks T rfl ?_
  walk_at "ws"
  have hl : f.fr.clocks.length = f.cks.length := List.length_map _
  refine ⟨by rw [hl]; have := ok.ncks; omega, fun i acc => acc = (mineN f.cks n i).map fun k : Nat => PyData.int (k : Int), rfl, ?_, ?_⟩
  · rintro i acc hi rfl hal
    rw [hl] at hi
    refine g_tup rfl (gs_cons (g_name (gs_cons (g_name (gs_nil ?_)))))
    have ec : f.fr.clocks.getD i .none = (f.cks.getD i default).d := by
      show (f.cks.map Ck.d).getD i .none = _
      rw [List.getD_eq_getElem?_getD, List.getElem?_map, getD_of default hi]
      rfl
    rw [ec]
    walk_at "ws"
    refine ⟨fun h => ?_, fun h => ?_⟩
    · walk_at "ws"
      show _ = List.map _ (mineN f.cks n (i + 1))
      rw [mineN_succ, show mineP f.cks n i = true from h, if_pos rfl, List.map_append]
      rfl
    · show _ = List.map _ (mineN f.cks n (i + 1))
      rw [mineN_succ, show mineP f.cks n i = false from h, if_neg Bool.false_ne_true, List.append_nil]
  · rintro acc rfl _
    rw [hl]
    exact ⟨_, rfl, rfl⟩
theorem wp_firstHands (c : Cn) (f : FrD) (n : Int) (ok : FrOk f) : wpS c (t_firstHands c.K c.C) (gam [.f f.fr, .d (.int n)] 1) (fun _ => False) fun r _ => ∃ ds, r = .l ds ∧ ds = (hands0 f n).map Hd.d := by
  unfold t_firstHands
  refine s_retN (n_lc (js := [2]) ?_ (fun j h => h) (i_list ?_))
  · intro v hv
    have : v = 2 := by simpa using hv
    subst this
    rfl
  refine e_new (k_clocksOf rfl ok ?_)
  walk_at "ws"
  refine ⟨by have := ok.ncks; have := mine_len f.cks n; rw [List.length_map]; omega, fun i acc => acc = List.replicate i (Hd.d ⟨none, 0, false⟩), rfl, ?_, ?_⟩
  · rintro i acc hi rfl hal
    refine g_name ?_
    refine t_yes ⟨fun _ => ?_, fun h => (nomatch h)⟩
    walk_at "ws"
    show _ = List.replicate (i + 1) _
    rw [List.replicate_succ']
    rfl
  · rintro acc rfl _
    refine ⟨_, rfl, ?_⟩
    unfold hands0
    rw [List.length_map, List.map_map]
    exact List.map_const.symm
theorem wp_sentKind (c : Cn) (T : Cls3 c.K c.C) (f : FrD) (v0 v1 : List Ev) (deed : Dd) (hp : FrOk f ∧ ∀ n, deed = .hear n → n < v0.length) : wpS c (t_sentKind c.K c.C) (gam [.d (viewD v0 v1), .f f.fr, .d deed.d] 1) (fun _ => False) fun r _ => ∃ d, r = .d d ∧ d = optB (kindOf v0 deed) := by
  unfold t_sentKind
  cases deed with
  | hear n =>
    walk_at "ws"
    refine e_links T rfl ?_
    walk_at "ws"
    have hn := hp.2 n rfl
    refine x_ixL rfl rfl (d := .list (v0.map Ev.d)) (by rw [hp.1.src]; rfl) ?_
    walk_at "ws"
    refine x_ixL rfl rfl (datI_getD default hn) ?_
    walk_at "ws"
    rw [kindOf_hear]
    generalize (v0.getD n default).deed = dd
    cases dd <;> walk_at "ws" <;> rfl
  | _ =>
    walk_at "ws"
    rfl
end W3

/-! ## LayS3 -/
namespace W3
open PySem L2
/-- one step: the reading's head tells the rule; what it asks of data is shown by computing -/
local macro_rules | `(tactic| walk_at "w3") => `(tactic| first
  | with_reducible refine s_seq ?_
  | ((with_reducible refine' e_var ?h ?_); (case h => exact rfl))
  | with_reducible refine e_int ?_
  | with_reducible refine e_str ?_
  | with_reducible refine e_non ?_
  | with_reducible refine e_bl ?_
  | with_reducible refine d_nil ?_
  | with_reducible refine d_cons ?_
  | with_reducible refine a_nil ?_
  | ((with_reducible refine' a_f ?h ?_); (case h => exact rfl))
  | with_reducible refine a_d ?_
  | with_reducible refine e_tup ?_
  | ((with_reducible refine' e_neg ?_))
  | with_reducible refine e_new (n_lst ?_)
  | with_reducible refine e_new (n_cat ?_)
  | with_reducible refine e_new (k_within ?_)
  | with_reducible refine k_within ?_
  | with_reducible refine n_lst ?_
  | with_reducible refine n_cat ?_
  | with_reducible refine e_op ?_
  | ((with_reducible refine' x_add ?a ?b ?_); (case a => exact rfl); (case b => exact rfl))
  | ((with_reducible refine' x_sub ?a ?b ?_); (case a => exact rfl); (case b => exact rfl))
  | ((with_reducible refine' x_ixT ?a ?b ?e ?_); (case a => exact rfl); (case b => exact rfl); (case e => exact rfl))
  | ((with_reducible refine' x_ixL ?a ?b ?e ?_); (case a => exact rfl); (case b => exact rfl); (case e => exact rfl))
  | ((with_reducible refine' x_eqI ?a ?b ?_); (case a => exact rfl); (case b => exact rfl))
  | ((with_reducible refine' x_neI ?a ?b ?_); (case a => exact rfl); (case b => exact rfl))
  | ((with_reducible refine' x_eqS (b := true) ?a ?b ?e ?f ?g ?_); (case a => exact rfl); (case b => exact rfl); (case e => decide +kernel); (case f => decide +kernel); (case g => decide +kernel))
  | ((with_reducible refine' x_eqS (b := false) ?a ?b ?e ?f ?g ?_); (case a => exact rfl); (case b => exact rfl); (case e => decide +kernel); (case f => decide +kernel); (case g => decide +kernel))
  | ((with_reducible refine' x_neS (b := true) ?a ?b ?e ?f ?g ?_); (case a => exact rfl); (case b => exact rfl); (case e => decide +kernel); (case f => decide +kernel); (case g => decide +kernel))
  | ((with_reducible refine' x_neS (b := false) ?a ?b ?e ?f ?g ?_); (case a => exact rfl); (case b => exact rfl); (case e => decide +kernel); (case f => decide +kernel); (case g => decide +kernel))
  | ((with_reducible refine' x_notN (b := true) ?a ?b ?_); (case a => exact rfl); (case b => exact rfl))
  | ((with_reducible refine' x_notN (b := false) ?a ?b ?_); (case a => exact rfl); (case b => exact rfl))
  | with_reducible refine t_test ?_
  | with_reducible refine t_B ?_
  | with_reducible refine t_and ?_
  | with_reducible refine t_or ?_
  | with_reducible refine t_not ?_
  | with_reducible refine t_yes ?_
  | with_reducible refine e_and ?_
  | with_reducible refine e_or ?_
  | with_reducible refine e_not ?_
  | with_reducible refine e_if ?_
  | with_reducible refine e_len ?_
  | with_reducible refine e_int1 ?_
  | with_reducible refine s_if ?_
  | with_reducible refine s_next ?_
  | with_reducible refine g_name ?_
  | ((with_reducible refine' ⟨_, ?e, ?_⟩); (case e => exact rfl))
  | ((with_reducible refine' ⟨_, _, _, _, _, ?e, ?_⟩); (case e => exact rfl))
  | ((with_reducible refine' ⟨_, _, ?a, ?b, ?e, ?_⟩); (case a => exact rfl); (case b => exact rfl); (case e => exact Nat.le_of_ble_eq_true rfl))
  | with_reducible refine ⟨Nat.le_of_ble_eq_true rfl, ?_⟩
  | ((with_reducible refine' ⟨fun _ => ?_, ?x⟩); (case x => (intro h; exact (nomatch (show true = false from h)))))
  | ((with_reducible refine' ⟨?x, fun _ => ?_⟩); (case x => (intro h; exact (nomatch (show false = true from h))))))
local macro_rules | `(tactic| walk_at "wx") => `(tactic| repeat (walk_at "w3"))
local macro_rules | `(tactic| walk_at "ws") => `(tactic| repeat (first | walk_at "w3" | with_reducible refine s_set ?_ | with_reducible refine s_ret ?_))
theorem wp_lawKind (c : Cn) (deed : Dd) : wpS c (t_lawKind c.K c.C) (gam [.d deed.d] 0) (fun _ => False) fun r _ => ∃ d, r = .d d ∧ d = optB (sendK deed) := by
  unfold t_lawKind
  cases deed <;> walk_at "ws" <;> rfl
theorem wp_handAfter (c : Cn) (deed : Dd) (clock place : Nat) (point : Pt) (hand : Hd) (e : Ev) (after : Int) (hp : okAnew deed place) :
    wpS c (t_handAfter c.K c.C) (gam [.d deed.d, .d (.int clock), .d (.int place), .d point.d, .d hand.d, .d e.d, .d (.int after)] 1) (fun _ => False) fun r _ => ∃ d, r = .d d ∧ d = (handA deed clock place point hand after).d := by
  unfold t_handAfter
  refine s_seq (s_set (k_toldKind ?_))
  walk_at "ws"
  refine ⟨deed, clock, place, rfl, hp, ?_⟩
  unfold handA
  cases toldK deed clock place with
  | some k =>
    walk_at "ws"
    rfl
  | none =>
    walk_at "ws"
    refine ⟨fun h => ?_, fun h => ?_⟩
    · walk_at "ws"
      have e1 : ¬ after = hand.sh := by simpa using h
      show _ = Hd.d (if after = hand.sh then hand else ⟨some point, after, hand.kd⟩)
      rw [if_neg e1]
      rfl
    · walk_at "ws"
      have e1 : after = hand.sh := by simpa using h
      show _ = Hd.d (if after = hand.sh then hand else ⟨some point, after, hand.kd⟩)
      rw [if_pos e1]
theorem sm_mul {i j : Int} (h : sm64 i) : CMul i j := .inl h
theorem wp_clockBounds (c : Cn) (lo hi part : Int) (h : Hd) (st : Bool) (tick ev before : Pt) (shown : Int) (hp : sm64 lo ∧ sm64 hi) :
    wpS c (t_clockBounds c.K c.C) (gam [.d (.tuple [.int lo, .int hi, .int part]), .d h.d, .d (.bool st), .d tick.d, .d ev.d, .d before.d, .d (.int shown)] 8) (fun _ => False) fun r _ => ∃ d, r = .d d ∧
      d = .tuple [.list ((clockB lo hi part h st tick ev before shown).1.map Bd.d), (clockB lo hi part h st tick ev before shown).2.d] := by
  unfold t_clockBounds
  obtain ⟨since, sh, k⟩ := h
  refine s_seq (s_asg (js := [7, 8, 9]) ?_)
  walk_at "ws"
  refine g_tup rfl (gs_cons (g_name (gs_cons (g_name (gs_cons (g_name (gs_nil ?_)))))))
  refine s_seq (s_asg (js := [10, 11, 12]) ?_)
  walk_at "ws"
  refine g_tup rfl (gs_cons (g_name (gs_cons (g_name (gs_cons (g_name (gs_nil ?_)))))))
  refine s_nrm (γ' := [.is (.tuple [.int lo, .int hi, .int part]), .is (Hd.d ⟨since, sh, k⟩), .is (.bool st), .is tick.d, .is ev.d, .is before.d, .is (.int shown), .is (.int lo), .is (.int hi), .is (.int part), .is (optP since), .is (.int sh), .is (.int (bi k)), .no, .no]) rfl ?_
  have hlo : sm64 (-lo) := by have := hp.1; unfold sm64 at this ⊢; omega
  cases since with
  | none =>
    walk_at "ws"
    rfl
  | some s =>
    cases st with
    | true =>
      walk_at "ws"
      rfl
    | false =>
      walk_at "ws"
      refine ⟨fun h => ?_, fun h => ?_⟩
      · walk_at "ws"
        have e : shown = sh := of_decide_eq_true h
        show _ = PyData.tuple [.list ((if shown = sh then (within s ev 0 hi part, s) else _ : List Bd × Pt).1.map Bd.d), (if shown = sh then (within s ev 0 hi part, s) else _ : List Bd × Pt).2.d]
        rw [if_pos e]
        rfl
      · have e : ¬ shown = sh := of_decide_eq_false h
        walk_at "wx"
        refine s_set ?_
        walk_at "wx"
        refine s_set ?_
        walk_at "wx"
        refine s_setN (k_within ?_)
        walk_at "wx"
        refine x_mul rfl rfl (sm_mul hp.1) ?_
        walk_at "wx"
        refine x_mul rfl rfl (sm_mul hp.2) ?_
        walk_at "wx"
        refine s_app rfl (Nat.le_of_ble_eq_true rfl) ?_
        walk_at "wx"
        refine s_app rfl (Nat.le_of_ble_eq_true rfl) ?_
        walk_at "wx"
        refine x_mul rfl rfl (sm_mul hlo) ?_
        walk_at "wx"
        refine s_frz 13 rfl (s_ret ?_)
        walk_at "wx"
        show _ = PyData.tuple [.list ((if shown = sh then _ else (within s tick (lo * (shown - sh)) (hi * (shown - sh)) part ++ [⟨tick, s, 0, part⟩, ⟨tick, before, -lo * ((shown - sh) - 1), part⟩] ++ within tick ev 0 hi part, tick) : List Bd × Pt).1.map Bd.d), (if shown = sh then _ else (within s tick (lo * (shown - sh)) (hi * (shown - sh)) part ++ [⟨tick, s, 0, part⟩, ⟨tick, before, -lo * ((shown - sh) - 1), part⟩] ++ within tick ev 0 hi part, tick) : List Bd × Pt).2.d]
        rw [if_neg e]
        rfl
end W3

/-! ## LayS4 -/
namespace W3
open PySem L2
/-- one step: the reading's head tells the rule; what it asks of data is shown by computing -/
local macro_rules | `(tactic| walk_at "w3") => `(tactic| first
  | with_reducible refine s_seq ?_
  | ((with_reducible refine' e_var ?h ?_); (case h => exact rfl))
  | with_reducible refine e_int ?_
  | with_reducible refine e_str ?_
  | with_reducible refine e_non ?_
  | with_reducible refine e_bl ?_
  | with_reducible refine d_nil ?_
  | with_reducible refine d_cons ?_
  | with_reducible refine a_nil ?_
  | ((with_reducible refine' a_f ?h ?_); (case h => exact rfl))
  | with_reducible refine a_d ?_
  | with_reducible refine e_tup ?_
  | ((with_reducible refine' e_neg ?_))
  | with_reducible refine e_new (n_lst ?_)
  | with_reducible refine e_new (n_cat ?_)
  | with_reducible refine e_new (k_within ?_)
  | with_reducible refine k_within ?_
  | with_reducible refine n_lst ?_
  | with_reducible refine n_cat ?_
  | with_reducible refine e_op ?_
  | ((with_reducible refine' x_add ?a ?b ?_); (case a => exact rfl); (case b => exact rfl))
  | ((with_reducible refine' x_sub ?a ?b ?_); (case a => exact rfl); (case b => exact rfl))
  | ((with_reducible refine' x_ixT ?a ?b ?e ?_); (case a => exact rfl); (case b => exact rfl); (case e => exact rfl))
  | ((with_reducible refine' x_ixL ?a ?b ?e ?_); (case a => exact rfl); (case b => exact rfl); (case e => exact rfl))
  | ((with_reducible refine' x_eqI ?a ?b ?_); (case a => exact rfl); (case b => exact rfl))
  | ((with_reducible refine' x_neI ?a ?b ?_); (case a => exact rfl); (case b => exact rfl))
  | ((with_reducible refine' x_eqS (b := true) ?a ?b ?e ?f ?g ?_); (case a => exact rfl); (case b => exact rfl); (case e => decide +kernel); (case f => decide +kernel); (case g => decide +kernel))
  | ((with_reducible refine' x_eqS (b := false) ?a ?b ?e ?f ?g ?_); (case a => exact rfl); (case b => exact rfl); (case e => decide +kernel); (case f => decide +kernel); (case g => decide +kernel))
  | ((with_reducible refine' x_neS (b := true) ?a ?b ?e ?f ?g ?_); (case a => exact rfl); (case b => exact rfl); (case e => decide +kernel); (case f => decide +kernel); (case g => decide +kernel))
  | ((with_reducible refine' x_neS (b := false) ?a ?b ?e ?f ?g ?_); (case a => exact rfl); (case b => exact rfl); (case e => decide +kernel); (case f => decide +kernel); (case g => decide +kernel))
  | ((with_reducible refine' x_notN (b := true) ?a ?b ?_); (case a => exact rfl); (case b => exact rfl))
  | ((with_reducible refine' x_notN (b := false) ?a ?b ?_); (case a => exact rfl); (case b => exact rfl))
  | with_reducible refine t_test ?_
  | with_reducible refine t_B ?_
  | with_reducible refine t_and ?_
  | with_reducible refine t_or ?_
  | with_reducible refine t_not ?_
  | with_reducible refine t_yes ?_
  | with_reducible refine e_and ?_
  | with_reducible refine e_or ?_
  | with_reducible refine e_not ?_
  | with_reducible refine e_if ?_
  | with_reducible refine e_len ?_
  | with_reducible refine e_int1 ?_
  | with_reducible refine s_if ?_
  | with_reducible refine s_next ?_
  | with_reducible refine g_name ?_
  | ((with_reducible refine' ⟨_, ?e, ?_⟩); (case e => exact rfl))
  | ((with_reducible refine' ⟨_, _, _, _, _, ?e, ?_⟩); (case e => exact rfl))
  | ((with_reducible refine' ⟨_, _, ?a, ?b, ?e, ?_⟩); (case a => exact rfl); (case b => exact rfl); (case e => exact Nat.le_of_ble_eq_true rfl))
  | with_reducible refine ⟨Nat.le_of_ble_eq_true rfl, ?_⟩
  | ((with_reducible refine' ⟨fun _ => ?_, ?x⟩); (case x => (intro h; exact (nomatch (show true = false from h)))))
  | ((with_reducible refine' ⟨?x, fun _ => ?_⟩); (case x => (intro h; exact (nomatch (show false = true from h))))))
local macro_rules | `(tactic| walk_at "wx") => `(tactic| repeat (walk_at "w3"))
local macro_rules | `(tactic| walk_at "ws") => `(tactic| repeat (first | walk_at "w3" | with_reducible refine s_set ?_ | with_reducible refine s_ret ?_))
theorem sixth (f : FrD) (s : Nat) (h : s < f.srs.length) : datI f.fr.sources (s : Int) = some (f.srs.getD s default).d := datI_getD default h
theorem wp_deedBounds (c : Cn) (T : Cls3 c.K c.C) (aS : Addr) (hS : ∀ G, Da c.K G (.ref aS) (Pt.d ⟨-1, 0, -1⟩)) (f : FrD) (here : Pt) (deed : Dd) (kind : Option Bool) (hp : FrOk f ∧ okMark f deed) :
    wpS c (t_deedBounds c.K c.C aS) (gam [.f f.fr, .d here.d, .d deed.d, .d (optB kind)] 8) (fun _ => False) fun r _ => ∃ ds, r = .l ds ∧ ds = (deedB f here deed kind).map Bd.d := by
  unfold t_deedBounds
  refine s_nrm (γ' := [.fr f.fr, .is here.d, .is deed.d, .is (optB kind), .no, .no, .no, .no, .no, .no, .no, .no]) rfl ?_
  cases deed with
  | mark s k v =>
    have hs := sixth f s (hp.2 s k v rfl)
    walk_at "wx"
    refine s_asg (js := [4, 5, 6]) ?_
    walk_at "wx"
    refine e_sources T rfl ?_
    walk_at "wx"
    refine x_ixL rfl rfl hs ?_
    generalize hsr : f.srs.getD s default = sr
    have eb : deedB f here (.mark s k v) kind = within ⟨-1, 0, -1⟩ here (v - sr.ea k) (v + sr.la k) (f.cks.length + 2 + s) := by rw [← hsr]; rfl
    rw [eb]
    cases k <;>
    · walk_at "wx"
      refine g_tup rfl (gs_cons (g_name (gs_cons (g_name (gs_cons (g_name (gs_nil ?_)))))))
      refine s_nrm (γ' := [.fr f.fr, .is here.d, .is (Dd.d _), .is (optB kind), .is (.str _), .is (.int (sr.ea _)), .is (.int (sr.la _)), .no, .no, .no, .no, .no]) rfl ?_
      walk_at "wx"
      refine s_set (k_sourcePart rfl ?_)
      walk_at "wx"
      refine s_retN (k_within ?_)
      refine a_d (e_glob hS ?_)
      walk_at "wx"
      rfl
  | hear n =>
    walk_at "wx"
    refine s_set ?_
    walk_at "wx"
    refine e_links T rfl ?_
    walk_at "wx"
    cases kind with
    | none =>
      refine s_setN ?_
      walk_at "wx"
      refine s_retOwn rfl ⟨_, rfl, rfl⟩
    | some k =>
      refine s_setN ?_
      walk_at "wx"
      refine s_asg (js := [4, 10, 11]) ?_
      walk_at "wx"
      refine e_links T rfl ?_
      walk_at "wx"
      have eb : deedB f here (.hear n) (some k) = [⟨here, ⟨f.lk0.src, n, -1⟩, 0, -1⟩, ⟨here, ⟨f.lk0.src, n, -1⟩, -(f.lk0.le k), f.cks.length⟩] ++ mostB ⟨f.lk0.src, n, -1⟩ here f.cks.length (f.lk0.mo k) := rfl
      rw [eb]
      cases k <;>
      · walk_at "wx"
        refine g_tup rfl (gs_cons (g_name (gs_cons (g_name (gs_cons (g_name (gs_nil ?_)))))))
        walk_at "wx"
        refine s_set (k_linkPart rfl ?_)
        walk_at "wx"
        refine s_app rfl (Nat.le_of_ble_eq_true rfl) ?_
        walk_at "wx"
        rw [Int.add_zero]
        generalize hmo : f.lk0.mo _ = mo
        cases mo with
        | none =>
          walk_at "wx"
          refine s_retOwn rfl ⟨_, rfl, rfl⟩
        | some m =>
          walk_at "wx"
          refine s_app rfl (Nat.le_of_ble_eq_true rfl) ?_
          walk_at "wx"
          refine s_retOwn rfl ⟨_, rfl, rfl⟩
  | _ =>
    walk_at "wx"
    refine s_retN ?_
    walk_at "wx"
    rfl
theorem wp_restDue (c : Cn) (T : Cls3 c.K c.C) (f : FrD) (here : Pt) (e : Ev) (word : Dd) (hp : FrOk f ∧ okMark f e.deed) :
    wpS c (t_restDue c.K c.C) (gam [.f f.fr, .d here.d, .d e.d, .d word.d] 5) (fun _ => False) fun r _ => ∃ ds, r = .l ds ∧ ds = (deedB f here e.deed (sendK word)).map Bd.d := by
  unfold t_restDue
  have hlen : (f.fr.clocks.length : Int) = (f.cks.length : Int) := by show ((f.cks.map Ck.d).length : Int) = _; rw [List.length_map]
  refine s_seq (s_set (e_op (e_var rfl (e_int (x_ixT (d := e.deed.d) rfl rfl rfl ?_)))))
  obtain ⟨ok, hm⟩ := hp
  generalize e.deed = deed at hm ⊢
  refine s_nrm (γ' := [.fr f.fr, .is here.d, .is e.d, .is word.d, .is deed.d, .no, .no, .no, .no]) rfl ?_
  cases deed with
  | mark s k v =>
    have hs := sixth f s (hm s k v rfl)
    walk_at "wx"
    refine s_set ?_
    walk_at "wx"
    refine e_sources T rfl ?_
    walk_at "wx"
    refine x_ixL rfl rfl hs ?_
    generalize hsr : f.srs.getD s default = sr
    have eb : deedB f here (.mark s k v) (sendK word) = within ⟨-1, 0, -1⟩ here (v - sr.ea k) (v + sr.la k) (f.cks.length + 2 + s) := by rw [← hsr]; rfl
    rw [eb]
    cases k <;>
    · walk_at "wx"
      refine s_set ?_
      walk_at "wx"
      refine e_clocks T rfl ?_
      walk_at "wx"
      refine s_retN ?_
      walk_at "wx"
      rw [hlen]
      have ar : ∀ x y : Int, -(x - y) = y - x := fun x y => by omega
      simp only [within, List.map_cons, List.map_nil, Bd.d, Pt.d, ar]
  | hear n =>
    have hsrc := ok.src
    walk_at "wx"
    refine s_set ?_
    walk_at "wx"
    refine s_setN ?_
    cases word with
    | send k =>
      have eb : deedB f here (.hear n) (sendK (.send k)) = [⟨here, ⟨0, n, -1⟩, 0, -1⟩, ⟨here, ⟨0, n, -1⟩, -(f.lk0.le k), f.cks.length⟩] ++ mostB ⟨0, n, -1⟩ here f.cks.length (f.lk0.mo k) := by
        unfold deedB
        rw [hsrc]
        rfl
      rw [eb]
      walk_at "wx"
      refine s_set ?_
      walk_at "wx"
      refine e_links T rfl ?_
      cases k <;>
      · walk_at "wx"
        refine s_app rfl (Nat.le_of_ble_eq_true rfl) ?_
        walk_at "wx"
        refine e_clocks T rfl ?_
        walk_at "wx"
        generalize hmo : f.lk0.mo _ = mo
        have ar : ∀ x : Int, 0 - x = -x := fun x => by omega
        cases mo with
        | none =>
          walk_at "wx"
          refine s_retOwn rfl ⟨_, rfl, ?_⟩
          rw [hlen, ar]
          rfl
        | some m =>
          walk_at "wx"
          refine s_app rfl (Nat.le_of_ble_eq_true rfl) ?_
          walk_at "wx"
          refine e_clocks T rfl ?_
          walk_at "wx"
          refine s_retOwn rfl ⟨_, rfl, ?_⟩
          rw [hlen, ar]
          rfl
    | _ =>
      walk_at "wx"
      refine s_retOwn rfl ⟨_, rfl, ?_⟩
      unfold deedB
      rw [hsrc]
      rfl
  | _ =>
    walk_at "wx"
    refine s_retN ?_
    walk_at "wx"
    rfl
end W3

/-! ## LayS6 -/
namespace W3
open PySem L2
/-- one step: the reading's head tells the rule; what it asks of data is shown by computing -/
local macro_rules | `(tactic| walk_at "w3") => `(tactic| first
  | with_reducible refine s_seq ?_
  | ((with_reducible refine' e_var ?h ?_); (case h => exact rfl))
  | with_reducible refine e_int ?_
  | with_reducible refine e_str ?_
  | with_reducible refine e_non ?_
  | with_reducible refine e_bl ?_
  | with_reducible refine d_nil ?_
  | with_reducible refine d_cons ?_
  | with_reducible refine a_nil ?_
  | ((with_reducible refine' a_f ?h ?_); (case h => exact rfl))
  | with_reducible refine a_d ?_
  | with_reducible refine e_tup ?_
  | ((with_reducible refine' e_neg ?_))
  | with_reducible refine e_new (n_lst ?_)
  | with_reducible refine e_new (n_cat ?_)
  | with_reducible refine e_new (k_within ?_)
  | with_reducible refine k_within ?_
  | with_reducible refine n_lst ?_
  | with_reducible refine n_cat ?_
  | with_reducible refine e_op ?_
  | ((with_reducible refine' x_add ?a ?b ?_); (case a => exact rfl); (case b => exact rfl))
  | ((with_reducible refine' x_sub ?a ?b ?_); (case a => exact rfl); (case b => exact rfl))
  | ((with_reducible refine' x_ixT ?a ?b ?e ?_); (case a => exact rfl); (case b => exact rfl); (case e => exact rfl))
  | ((with_reducible refine' x_ixL ?a ?b ?e ?_); (case a => exact rfl); (case b => exact rfl); (case e => exact rfl))
  | ((with_reducible refine' x_ixT ?a ?b ?e ?_); (case a => exact rfl); (case b => exact rfl); (case e => assumption))
  | ((with_reducible refine' x_ixL ?a ?b ?e ?_); (case a => exact rfl); (case b => exact rfl); (case e => assumption))
  | ((with_reducible refine' x_eqI ?a ?b ?_); (case a => exact rfl); (case b => exact rfl))
  | ((with_reducible refine' x_neI ?a ?b ?_); (case a => exact rfl); (case b => exact rfl))
  | ((with_reducible refine' x_eqS (b := true) ?a ?b ?e ?f ?g ?_); (case a => exact rfl); (case b => exact rfl); (case e => decide +kernel); (case f => decide +kernel); (case g => decide +kernel))
  | ((with_reducible refine' x_eqS (b := false) ?a ?b ?e ?f ?g ?_); (case a => exact rfl); (case b => exact rfl); (case e => decide +kernel); (case f => decide +kernel); (case g => decide +kernel))
  | ((with_reducible refine' x_neS (b := true) ?a ?b ?e ?f ?g ?_); (case a => exact rfl); (case b => exact rfl); (case e => decide +kernel); (case f => decide +kernel); (case g => decide +kernel))
  | ((with_reducible refine' x_neS (b := false) ?a ?b ?e ?f ?g ?_); (case a => exact rfl); (case b => exact rfl); (case e => decide +kernel); (case f => decide +kernel); (case g => decide +kernel))
  | ((with_reducible refine' x_notN (b := true) ?a ?b ?_); (case a => exact rfl); (case b => exact rfl))
  | ((with_reducible refine' x_notN (b := false) ?a ?b ?_); (case a => exact rfl); (case b => exact rfl))
  | with_reducible refine t_test ?_
  | with_reducible refine t_B ?_
  | with_reducible refine t_and ?_
  | with_reducible refine t_or ?_
  | with_reducible refine t_not ?_
  | with_reducible refine t_yes ?_
  | with_reducible refine e_not ?_
  | with_reducible refine e_if ?_
  | ((with_reducible refine' e_clocks ?T ?h ?_); (case T => assumption); (case h => exact rfl))
  | ((with_reducible refine' e_links ?T ?h ?_); (case T => assumption); (case h => exact rfl))
  | ((with_reducible refine' e_sources ?T ?h ?_); (case T => assumption); (case h => exact rfl))
  | with_reducible refine e_len ?_
  | with_reducible refine e_int1 ?_
  | with_reducible refine s_if ?_
  | with_reducible refine s_next ?_
  | with_reducible refine g_name ?_
  | ((with_reducible refine' ⟨_, ?e, ?_⟩); (case e => exact rfl))
  | ((with_reducible refine' ⟨_, _, _, _, _, ?e, ?_⟩); (case e => exact rfl))
  | ((with_reducible refine' ⟨_, _, ?a, ?b, ?e, ?_⟩); (case a => exact rfl); (case b => exact rfl); (case e => exact Nat.le_of_ble_eq_true rfl))
  | with_reducible refine ⟨Nat.le_of_ble_eq_true rfl, ?_⟩
  | ((with_reducible refine' ⟨fun _ => ?_, ?x⟩); (case x => (intro h; exact (nomatch (show true = false from h)))))
  | ((with_reducible refine' ⟨?x, fun _ => ?_⟩); (case x => (intro h; exact (nomatch (show false = true from h))))))
local macro_rules | `(tactic| walk_at "wx") => `(tactic| repeat (walk_at "w3"))
local macro_rules | `(tactic| walk_at "ws") => `(tactic| repeat (first | walk_at "w3" | with_reducible refine s_set ?_ | with_reducible refine s_ret ?_))
theorem wp_clockDue_tail (c : Cn) (F : Fr) (h : Hd) (cI : Nat) (here tk : Pt) (e : Ev) (place : Nat) (sh : Int) (x6 x7 x8 due x12 : PyData) (g13 : En) (haf : place < e.after.length) (han : okAnew e.deed place) :
    wpS c (t_clockDue_tail c.K c.C) [.fr F, .is h.d, .is (.int cI), .is here.d, .is e.d, .is (.int place), .is x6, .is x7, .is x8, .is (.int sh), .is tk.d, .is due, .is x12, g13, .no] (fun _ => False)
      fun r _ => ∃ d, r = .d d ∧ d = .tuple [due, (handA e.deed cI place here ⟨some tk, sh, h.kd⟩ (e.after.getD place 0)).d] := by
  unfold t_clockDue_tail
  obtain ⟨as, shn, aft, deed, kn⟩ := e
  have haf' : datI (aft.map PyData.int) (place : Int) = some (.int (aft.getD place 0)) := datI_getD 0 haf
  dsimp only
  generalize aft.getD place 0 = af at haf' ⊢
  cases deed with
  | kind cc k =>
    walk_at "ws"
    refine ⟨fun h => ?_, fun h => ?_⟩
    · walk_at "ws"
      have e1 : cc = cI := by have := of_decide_eq_true h; omega
      subst e1
      unfold handA toldK
      dsimp only
      rw [if_pos rfl]
      rfl
    · have e1 : ¬ cc = cI := by have := of_decide_eq_false h; omega
      unfold handA toldK
      dsimp only
      rw [if_neg e1]
      walk_at "ws"
      refine ⟨fun h => ?_, fun h => ?_⟩
      · walk_at "ws"
        have e2 : ¬ af = sh := by simpa using h
        dsimp only
        rw [if_neg e2]
        rfl
      · walk_at "ws"
        have e2 : af = sh := by simpa using h
        dsimp only
        rw [if_pos e2]
        rfl
  | anew ks =>
    have hks : datI (ks.map fun k => PyData.int (bi k)) (place : Int) = some (.int (bi (ks.getD place false))) := datI_getD false (han ks rfl)
    walk_at "ws"
    rfl
  | _ =>
    walk_at "ws"
    refine ⟨fun h => ?_, fun h => ?_⟩
    · walk_at "ws"
      have e2 : ¬ af = sh := by simpa using h
      unfold handA toldK
      dsimp only
      rw [if_neg e2]
      rfl
    · walk_at "ws"
      have e2 : af = sh := by simpa using h
      unfold handA toldK
      dsimp only
      rw [if_pos e2]
      rfl
theorem wp_clockDue (c : Cn) (T : Cls3 c.K c.C) (f : FrD) (h : Hd) (cI : Nat) (dev n : Int) (e : Ev) (place : Nat) (hp : FrOk f ∧ cI < f.cks.length ∧ place < e.shown.length ∧ place < e.after.length ∧ okAnew e.deed place) :
    wpS c (t_clockDue c.K c.C) (gam [.f f.fr, .d h.d, .d (.int cI), .d (hereP dev n).d, .d e.d, .d (.int place)] 9) (fun _ => False)
      fun r _ => ∃ d, r = .d d ∧ d = .tuple [.list ((clockAt (f.cks.getD cI default) dev n e cI place h).1.map Bd.d), (clockAt (f.cks.getD cI default) dev n e cI place h).2.d] := by
  obtain ⟨ok, hc, hsh, haf, han⟩ := hp
  obtain ⟨since, sh, k⟩ := h
  have hck : datI f.fr.clocks (cI : Int) = some (f.cks.getD cI default).d := datI_getD default hc
  have hlo : ∀ b, sm64 ((f.cks.getD cI default).lo b) := fun b => ok.lo _ (by rw [List.getD_eq_getElem?_getD, List.getElem?_eq_getElem hc]; exact List.getElem_mem hc) b
  have hhi : ∀ b, sm64 ((f.cks.getD cI default).hi b) := fun b => ok.hi _ (by rw [List.getD_eq_getElem?_getD, List.getElem?_eq_getElem hc]; exact List.getElem_mem hc) b
  generalize f.cks.getD cI default = ck at hck hlo hhi ⊢
  have hsn : datI (e.shown.map PyData.int) (place : Int) = some (.int (e.shown.getD place 0)) := datI_getD 0 hsh
  have hkd : datI [.tuple [.str "k", .int (ck.lo false), .int (ck.hi false)], .tuple [.str "j", .int (ck.lo true), .int (ck.hi true)]] (bi k) = some (.tuple [.str (if k = true then "j" else "k"), .int (ck.lo k), .int (ck.hi k)]) := by cases k <;> rfl
  unfold t_clockDue
  refine s_nrm (γ' := [.fr f.fr, .is (Hd.d ⟨since, sh, k⟩), .is (.int cI), .is (hereP dev n).d, .is e.d, .is (.int place), .no, .no, .no, .no, .no, .no, .no, .no, .no]) rfl ?_
  walk_at "ws"
  refine v_and (a := !isAnew e.deed) (b := ck.goes || !e.asleep) ?_ (v_or (a := ck.goes) (b := !e.asleep) ?_ ?_ rfl) ?_
  · walk_at "wx"
    refine x_ixT (dd_eq _) rfl rfl ?_
    walk_at "wx"
    exact x_neS rfl rfl (tag_ok _) (by decide +kernel) (by rw [tag_anew]) rfl
  · walk_at "wx"
    rfl
  · walk_at "wx"
    rfl
  have hst : (!isAnew e.deed && (ck.goes || !e.asleep)) = !((e.asleep && !ck.goes) || isAnew e.deed) := by cases isAnew e.deed <;> cases ck.goes <;> cases e.asleep <;> rfl
  rw [hst]
  have hAt : ∀ st, ((e.asleep && !ck.goes) || isAnew e.deed) = st → clockAt ck dev n e cI place ⟨since, sh, k⟩ = ((clockB (ck.lo k) (ck.hi k) cI ⟨since, sh, k⟩ st ⟨dev, n, cI⟩ (hereP dev n) (hereP dev (n - 1)) (e.shown.getD place 0)).1,
      handA e.deed cI place (hereP dev n) ⟨some (clockB (ck.lo k) (ck.hi k) cI ⟨since, sh, k⟩ st ⟨dev, n, cI⟩ (hereP dev n) (hereP dev (n - 1)) (e.shown.getD place 0)).2, e.shown.getD place 0, k⟩ (e.after.getD place 0)) := fun st hs => by rw [← hs]; rfl
  generalize hs : ((e.asleep && !ck.goes) || isAnew e.deed) = st
  rw [hAt st hs]
  generalize e.shown.getD place 0 = sn
  refine s_nrm (γ' := [.fr f.fr, .is (Hd.d ⟨since, sh, k⟩), .is (.int cI), .is (hereP dev n).d, .is e.d, .is (.int place), .is (optP since), .is (.int (ck.lo k)), .is (.int (ck.hi k)), .is (.int sn), .is (Pt.d ⟨dev, n, cI⟩), .is (.list []), .is (.bool (!st)), .no, .no]) rfl ?_
  cases since with
  | none =>
    walk_at "ws"
    refine wpS_mono (wp_clockDue_tail c f.fr ⟨none, sh, k⟩ cI (hereP dev n) ⟨dev, n, cI⟩ e place sn _ _ _ _ _ _ haf han) (fun _ z => z) fun r γ' ⟨d, hr, hd⟩ => ⟨d, hr, hd.trans ?_⟩
    rfl
  | some s =>
    cases st with
    | true =>
      walk_at "ws"
      refine wpS_mono (wp_clockDue_tail c f.fr ⟨some s, sh, k⟩ cI (hereP dev n) ⟨dev, n, cI⟩ e place sn _ _ _ _ _ _ haf han) (fun _ z => z) fun r γ' ⟨d, hr, hd⟩ => ⟨d, hr, hd.trans ?_⟩
      rfl
    | false =>
      by_cases hg : sn = sh
      · subst hg
        walk_at "ws"
        refine ⟨fun _ => ?_, fun h => absurd rfl (of_decide_eq_false h)⟩
        walk_at "ws"
        refine wpS_mono (wp_clockDue_tail c f.fr ⟨some s, sn, k⟩ cI (hereP dev n) s e place sn _ _ _ _ _ _ haf han) (fun _ z => z) fun r γ' ⟨d, hr, hd⟩ => ⟨d, hr, hd.trans ?_⟩
        have eb : clockB (ck.lo k) (ck.hi k) cI ⟨some s, sn, k⟩ false ⟨dev, n, cI⟩ (hereP dev n) (hereP dev (n - 1)) sn = (within s (hereP dev n) 0 (ck.hi k) cI, s) := by
          unfold clockB
          dsimp only
          rw [if_neg Bool.false_ne_true, if_pos rfl]
        rw [eb]
        rfl
      · have eb : clockB (ck.lo k) (ck.hi k) cI ⟨some s, sh, k⟩ false ⟨dev, n, cI⟩ (hereP dev n) (hereP dev (n - 1)) sn =
            (within s ⟨dev, n, cI⟩ (ck.lo k * (sn - sh)) (ck.hi k * (sn - sh)) cI ++ [⟨⟨dev, n, cI⟩, s, 0, cI⟩, ⟨⟨dev, n, cI⟩, hereP dev (n - 1), -ck.lo k * ((sn - sh) - 1), cI⟩] ++ within ⟨dev, n, cI⟩ (hereP dev n) 0 (ck.hi k) cI, ⟨dev, n, cI⟩) := by
          unfold clockB
          dsimp only
          rw [if_neg Bool.false_ne_true, if_neg hg]
        rw [eb]
        walk_at "wx"
        refine ⟨fun h => absurd (of_decide_eq_true h) hg, fun _ => ?_⟩
        walk_at "wx"
        refine s_set ?_
        walk_at "wx"
        refine s_setN ?_
        walk_at "wx"
        refine x_mul rfl rfl (sm_mul (hhi k)) ?_
        walk_at "wx"
        refine x_mul rfl rfl (sm_mul (hlo k)) ?_
        walk_at "wx"
        refine s_app rfl (Nat.le_of_ble_eq_true rfl) ?_
        walk_at "wx"
        refine x_mul rfl rfl (sm_mul (hlo k)) ?_
        walk_at "wx"
        refine s_frz 11 rfl ?_
        walk_at "ws"
        refine wpS_mono (wp_clockDue_tail c f.fr ⟨some s, sh, k⟩ cI (hereP dev n) ⟨dev, n, cI⟩ e place sn _ _ _ _ _ _ haf han) (fun _ z => z) fun r γ' ⟨d, hr, hd⟩ => ⟨d, hr, hd.trans ?_⟩
        have a1 : ∀ x : Int, 0 - x = -x := fun x => by omega
        have a2 : ∀ x g : Int, x - x * g = -x * (g - 1) := fun x g => by
          rw [Int.mul_sub, Int.mul_one, Int.neg_mul]
          omega
        rw [a1, a2 (ck.lo k) (sn - sh)]
        rfl
end W3

/-! ## LayS8 -/
namespace W3
open PySem L2
/-- one step: the reading's head tells the rule; what it asks of data is shown by computing -/
local macro_rules | `(tactic| walk_at "w3") => `(tactic| first
  | with_reducible refine s_seq ?_
  | ((with_reducible refine' e_var ?h ?_); (case h => exact rfl))
  | with_reducible refine e_int ?_
  | with_reducible refine e_str ?_
  | with_reducible refine e_non ?_
  | with_reducible refine e_bl ?_
  | with_reducible refine d_nil ?_
  | with_reducible refine d_cons ?_
  | with_reducible refine a_nil ?_
  | ((with_reducible refine' a_f ?h ?_); (case h => exact rfl))
  | with_reducible refine a_d ?_
  | with_reducible refine e_tup ?_
  | ((with_reducible refine' e_neg ?_))
  | with_reducible refine e_new (n_lst ?_)
  | with_reducible refine e_new (n_cat ?_)
  | with_reducible refine e_new (k_within ?_)
  | with_reducible refine k_within ?_
  | with_reducible refine n_lst ?_
  | with_reducible refine n_cat ?_
  | with_reducible refine e_op ?_
  | ((with_reducible refine' x_add ?a ?b ?_); (case a => exact rfl); (case b => exact rfl))
  | ((with_reducible refine' x_sub ?a ?b ?_); (case a => exact rfl); (case b => exact rfl))
  | ((with_reducible refine' x_ixT ?a ?b ?e ?_); (case a => exact rfl); (case b => exact rfl); (case e => exact rfl))
  | ((with_reducible refine' x_ixL ?a ?b ?e ?_); (case a => exact rfl); (case b => exact rfl); (case e => exact rfl))
  | ((with_reducible refine' x_ixT ?a ?b ?e ?_); (case a => exact rfl); (case b => exact rfl); (case e => assumption))
  | ((with_reducible refine' x_ixL ?a ?b ?e ?_); (case a => exact rfl); (case b => exact rfl); (case e => assumption))
  | ((with_reducible refine' x_eqI ?a ?b ?_); (case a => exact rfl); (case b => exact rfl))
  | ((with_reducible refine' x_neI ?a ?b ?_); (case a => exact rfl); (case b => exact rfl))
  | ((with_reducible refine' x_eqS (b := true) ?a ?b ?e ?f ?g ?_); (case a => exact rfl); (case b => exact rfl); (case e => decide +kernel); (case f => decide +kernel); (case g => decide +kernel))
  | ((with_reducible refine' x_eqS (b := false) ?a ?b ?e ?f ?g ?_); (case a => exact rfl); (case b => exact rfl); (case e => decide +kernel); (case f => decide +kernel); (case g => decide +kernel))
  | ((with_reducible refine' x_neS (b := true) ?a ?b ?e ?f ?g ?_); (case a => exact rfl); (case b => exact rfl); (case e => decide +kernel); (case f => decide +kernel); (case g => decide +kernel))
  | ((with_reducible refine' x_neS (b := false) ?a ?b ?e ?f ?g ?_); (case a => exact rfl); (case b => exact rfl); (case e => decide +kernel); (case f => decide +kernel); (case g => decide +kernel))
  | ((with_reducible refine' x_notN (b := true) ?a ?b ?_); (case a => exact rfl); (case b => exact rfl))
  | ((with_reducible refine' x_notN (b := false) ?a ?b ?_); (case a => exact rfl); (case b => exact rfl))
  | with_reducible refine t_test ?_
  | with_reducible refine t_B ?_
  | with_reducible refine t_and ?_
  | with_reducible refine t_or ?_
  | with_reducible refine t_not ?_
  | with_reducible refine t_yes ?_
  | with_reducible refine e_not ?_
  | with_reducible refine e_if ?_
  | ((with_reducible refine' e_clocks ?T ?h ?_); (case T => assumption); (case h => exact rfl))
  | ((with_reducible refine' e_links ?T ?h ?_); (case T => assumption); (case h => exact rfl))
  | ((with_reducible refine' e_sources ?T ?h ?_); (case T => assumption); (case h => exact rfl))
  | with_reducible refine e_len ?_
  | with_reducible refine e_int1 ?_
  | with_reducible refine s_if ?_
  | with_reducible refine s_next ?_
  | with_reducible refine g_name ?_
  | ((with_reducible refine' ⟨_, ?e, ?_⟩); (case e => exact rfl))
  | ((with_reducible refine' ⟨_, _, _, _, _, ?e, ?_⟩); (case e => exact rfl))
  | ((with_reducible refine' ⟨_, _, ?a, ?b, ?e, ?_⟩); (case a => exact rfl); (case b => exact rfl); (case e => exact Nat.le_of_ble_eq_true rfl))
  | with_reducible refine ⟨Nat.le_of_ble_eq_true rfl, ?_⟩
  | ((with_reducible refine' ⟨fun _ => ?_, ?x⟩); (case x => (intro h; exact (nomatch (show true = false from h)))))
  | ((with_reducible refine' ⟨?x, fun _ => ?_⟩); (case x => (intro h; exact (nomatch (show false = true from h))))))
local macro_rules | `(tactic| walk_at "wx") => `(tactic| repeat (walk_at "w3"))
local macro_rules | `(tactic| walk_at "ws") => `(tactic| repeat (first | walk_at "w3" | with_reducible refine s_set ?_ | with_reducible refine s_ret ?_))
def rowsU (f : FrD) (dev n : Int) (e : Ev) (hands : List Hd) (i : Nat) : List Bd := ⟨hereP dev n, hereP dev (n - 1), 0, -1⟩ :: ((List.range i).flatMap fun j => (placeB f dev n e hands j).1)
def latU (f : FrD) (dev n : Int) (e : Ev) (hands : List Hd) (i : Nat) : List Hd := (List.range i).map fun j => (placeB f dev n e hands j).2
theorem rowsU_succ (f : FrD) (dev n : Int) (e : Ev) (hands : List Hd) (i : Nat) : rowsU f dev n e hands (i + 1) = rowsU f dev n e hands i ++ (placeB f dev n e hands i).1 := by
  unfold rowsU
  rw [List.range_succ, List.flatMap_append, List.cons_append]
  simp
theorem latU_succ (f : FrD) (dev n : Int) (e : Ev) (hands : List Hd) (i : Nat) : latU f dev n e hands (i + 1) = latU f dev n e hands i ++ [(placeB f dev n e hands i).2] := by
  unfold latU
  rw [List.range_succ, List.map_append]
  rfl
theorem rowsU_len (f : FrD) (dev n : Int) (e : Ev) (hands : List Hd) (i : Nat) : (rowsU f dev n e hands i).length ≤ 1 + 6 * i := by
  unfold rowsU
  rw [List.length_cons]
  have h1 := flat_len (g := fun i => (placeB f dev n e hands i).1) (b := 6) (fun i => clockAt_len _ _ _ _ _ _ _) i
  omega
theorem latU_len (f : FrD) (dev n : Int) (e : Ev) (hands : List Hd) (i : Nat) : (latU f dev n e hands i).length = i := by
  unfold latU
  rw [List.length_map, List.length_range]
def evG (f : FrD) (dev n : Int) (e : Ev) (hands : List Hd) (kind : Option Bool) (i : Nat) (g : En) (gs : List En) : List En :=
  .fr f.fr :: .is (.tuple [.int dev, .int n, e.d]) :: .is (.list (hands.map Hd.d)) :: .is (optB kind) :: .is (.int dev) :: .is (.int n) :: .is e.d :: .is (.bool e.asleep) :: .is (.tuple (e.shown.map .int)) :: .is (.tuple (e.after.map .int)) :: .is e.deed.d :: .is (.tuple [.int e.kn, .int e.kn]) ::
    .is (hereP dev n).d :: .is (hereP dev (n - 1)).d :: .is (.list ((rowsU f dev n e hands i).map Bd.d)) :: g :: gs
theorem wp_eventBounds (c : Cn) (T : Cls3 c.K c.C) (f : FrD) (dev n : Int) (e : Ev) (hands : List Hd) (kind : Option Bool) (hp : FrOk f ∧ (∃ v0, EvOk f v0 dev e) ∧ hands.length = (mine f.cks dev).length) :
    wpS c (t_eventBounds c.K c.C) (gam [.f f.fr, .d (.tuple [.int dev, .int n, e.d]), .d (.list (hands.map Hd.d)), .d (optB kind)] 22) (fun _ => False)
      fun r _ => ∃ d, r = .d d ∧ d = .tuple [.list ((eventB f dev n e hands kind).1.map Bd.d), .list ((eventB f dev n e hands kind).2.map Hd.d)] := by
  obtain ⟨ok, ⟨v0, ev⟩, hh⟩ := hp
  unfold t_eventBounds
  refine s_seq (s_asg (js := [4, 5, 6]) ?_)
  walk_at "wx"
  refine g_tup rfl (gs_cons (g_name (gs_cons (g_name (gs_cons (g_name (gs_nil ?_)))))))
  walk_at "wx"
  refine s_asg (js := [7, 8, 9, 10, 11]) ?_
  walk_at "wx"
  refine g_tup rfl (gs_cons (g_name (gs_cons (g_name (gs_cons (g_name (gs_cons (g_name (gs_cons (g_name (gs_nil ?_)))))))))))
  walk_at "wx"
  refine s_set ?_
  walk_at "wx"
  refine s_set ?_
  walk_at "wx"
  refine s_set ?_
  walk_at "wx"
  refine s_setN ?_
  walk_at "wx"
  refine s_nrm (γ' := evG f dev n e hands kind 0 (.own ((latU f dev n e hands 0).map Hd.d)) [.no, .no, .no, .no, .no, .no, .no, .no, .no, .no]) rfl ?_
  have hml := mine_len f.cks dev
  have hnc := ok.ncks
  refine s_for (js := [16, 17]) (i_enum (d_cons (e_new (k_clocksOf rfl ok ?_))))
  walk_at "wx"
  refine ⟨fun i γ' => ∃ g0 g1 g2 g3 g4 g5 g6 g7 g8 g9, γ' = evG f dev n e hands kind i (.own ((latU f dev n e hands i).map Hd.d)) [g0, g1, g2, g3, g4, g5, g6, g7, g8, g9], ⟨_, _, _, _, _, _, _, _, _, _, rfl⟩, ?_, ?_⟩
  · rintro i γ' hi ⟨g0, g1, g2, g3, g4, g5, g6, g7, g8, g9, rfl⟩
    rw [List.length_map] at hi
    have hmi : (mine f.cks dev)[i]? = some ((mine f.cks dev).getD i 0) := getD_of 0 hi
    have hci : (mine f.cks dev).getD i 0 < f.cks.length := mine_lt (List.mem_of_getElem? hmi)
    have ey : (List.map (fun k : Nat => PyData.int (k : Int)) (mine f.cks dev)).getD i .none = .int ((mine f.cks dev).getD i 0 : Nat) := by
      rw [List.getD_eq_getElem?_getD, List.getElem?_map, hmi]
      rfl
    show wpG c _ [16, 17] _ (PyData.tuple [.int (i : Nat), (List.map (fun k : Nat => PyData.int (k : Int)) (mine f.cks dev)).getD i .none]) _
    rw [ey]
    have eP : placeB f dev n e hands i = clockAt (f.cks.getD ((mine f.cks dev).getD i 0) default) dev n e ((mine f.cks dev).getD i 0) i (hands.getD i default) := rfl
    have hck : datI f.fr.clocks (((mine f.cks dev).getD i 0 : Nat) : Int) = some (f.cks.getD ((mine f.cks dev).getD i 0) default).d := datI_getD default hci
    have hmem : f.cks.getD ((mine f.cks dev).getD i 0) default ∈ f.cks := by rw [List.getD_eq_getElem?_getD, List.getElem?_eq_getElem hci]; exact List.getElem_mem hci
    have hlo : ∀ b, sm64 ((f.cks.getD ((mine f.cks dev).getD i 0) default).lo b) := ok.lo _ hmem
    have hhi : ∀ b, sm64 ((f.cks.getD ((mine f.cks dev).getD i 0) default).hi b) := ok.hi _ hmem
    generalize f.cks.getD ((mine f.cks dev).getD i 0) default = ck at hck hlo hhi eP
    generalize (mine f.cks dev).getD i 0 = cI at hck eP
    have hhd : datI (hands.map Hd.d) (i : Int) = some (hands.getD i default).d := datI_getD default (by omega)
    generalize hands.getD i default = hd at hhd eP
    have hsn : datI (e.shown.map PyData.int) (i : Int) = some (.int (e.shown.getD i 0)) := datI_getD 0 (by rw [ev.sh]; exact hi)
    have haf : datI (e.after.map PyData.int) (i : Int) = some (.int (e.after.getD i 0)) := datI_getD 0 (by rw [ev.af]; exact hi)
    have han : okAnew e.deed i := fun ks hk => by rw [ev.anew ks hk]; exact hi
    have hkd : datI [.tuple [.str "k", .int (ck.lo false), .int (ck.hi false)], .tuple [.str "j", .int (ck.lo true), .int (ck.hi true)]] (bi hd.kd) = some (.tuple [.str (if hd.kd = true then "j" else "k"), .int (ck.lo hd.kd), .int (ck.hi hd.kd)]) := by cases hd.kd <;> rfl
    have hr := rowsU_succ f dev n e hands i
    have hl := latU_succ f dev n e hands i
    have hrl := rowsU_len f dev n e hands i
    have hll := latU_len f dev n e hands i
    rw [eP] at hr hl
    unfold evG
    generalize hru : rowsU f dev n e hands i = ru at hr hrl
    generalize hlu : latU f dev n e hands i = lu at hl hll
    refine g_tup rfl (gs_cons (g_name (gs_cons (g_name (gs_nil ?_)))))
    walk_at "ws"
    refine v_or (a := e.asleep && !ck.goes) (b := isAnew e.deed) (v_and (a := e.asleep) (b := !ck.goes) ?_ ?_ rfl) ?_ ?_
    · walk_at "wx"
      rfl
    · walk_at "wx"
      rfl
    · walk_at "wx"
      refine x_ixT (dd_eq _) rfl rfl ?_
      walk_at "wx"
      exact x_eqS rfl rfl (tag_ok _) (by decide +kernel) (tag_anew _) rfl
    walk_at "wx"
    refine s_set ?_
    walk_at "wx"
    refine s_asg (js := [23, 24]) (k_clockBounds ?_)
    walk_at "wx"
    have eAt : clockAt ck dev n e cI i hd = ((clockB (ck.lo hd.kd) (ck.hi hd.kd) cI hd ((e.asleep && !ck.goes) || isAnew e.deed) ⟨dev, n, cI⟩ (hereP dev n) (hereP dev (n - 1)) (e.shown.getD i 0)).1,
      handA e.deed cI i (hereP dev n) ⟨some (clockB (ck.lo hd.kd) (ck.hi hd.kd) cI hd ((e.asleep && !ck.goes) || isAnew e.deed) ⟨dev, n, cI⟩ (hereP dev n) (hereP dev (n - 1)) (e.shown.getD i 0)).2, e.shown.getD i 0, hd.kd⟩ (e.after.getD i 0)) := rfl
    have hcl := clockB_len (ck.lo hd.kd) (ck.hi hd.kd) cI hd ((e.asleep && !ck.goes) || isAnew e.deed) ⟨dev, n, cI⟩ (hereP dev n) (hereP dev (n - 1)) (e.shown.getD i 0)
    refine ⟨ck.lo hd.kd, ck.hi hd.kd, cI, hd, (e.asleep && !ck.goes) || isAnew e.deed, ⟨dev, n, cI⟩, hereP dev n, hereP dev (n - 1), e.shown.getD i 0, rfl, ⟨hlo _, hhi _⟩, ?_⟩
    rw [eAt] at hr hl
    generalize clockB (ck.lo hd.kd) (ck.hi hd.kd) cI hd ((e.asleep && !ck.goes) || isAnew e.deed) ⟨dev, n, cI⟩ (hereP dev n) (hereP dev (n - 1)) (e.shown.getD i 0) = r at hr hl hcl ⊢
    obtain ⟨rb, rp⟩ := r
    dsimp only at hr hl hcl ⊢
    refine g_tup rfl (gs_cons (g_name (gs_cons (g_name (gs_nil ?_)))))
    walk_at "wx"
    refine s_set ?_
    walk_at "wx"
    refine ⟨_, _, rfl, rfl, by rw [List.length_map, List.length_map]; omega, ?_⟩
    walk_at "wx"
    refine s_set ?_
    walk_at "wx"
    refine s_app rfl (by rw [List.length_map]; omega) (k_handAfter ?_)
    walk_at "wx"
    refine ⟨e.deed, cI, i, hereP dev n, ⟨some rp, e.shown.getD i 0, hd.kd⟩, e, e.after.getD i 0, rfl, han, ?_⟩
    refine' ⟨_, _, _, _, _, _, _, _, _, _, ?h⟩
    case h =>
      rw [hr, hl, List.map_append, List.map_append]
      exact rfl
  · rintro γ' ⟨g0, g1, g2, g3, g4, g5, g6, g7, g8, g9, rfl⟩
    rw [List.length_map]
    refine s_frz 15 rfl (s_ret ?_)
    walk_at "wx"
    refine e_new (k_deedBounds ?_)
    walk_at "wx"
    have h1 := rowsU_len f dev n e hands (mine f.cks dev).length
    have h2 := deedB_len f (hereP dev n) e.deed kind
    refine ⟨f, hereP dev n, e.deed, kind, rfl, ⟨ok, ev.mark⟩, _, _, rfl, rfl, by rw [List.length_map, List.length_map]; omega, ?_⟩
    walk_at "wx"
    show _ = PyData.tuple [.list ((rowsU f dev n e hands (mine f.cks dev).length ++ deedB f (hereP dev n) e.deed kind).map Bd.d), .list ((latU f dev n e hands (mine f.cks dev).length).map Hd.d)]
    rw [List.map_append]
end W3

/-! ## LayS9 -/
namespace W3
open PySem L2
/-- one step: the reading's head tells the rule; what it asks of data is shown by computing -/
local macro_rules | `(tactic| walk_at "w3") => `(tactic| first
  | with_reducible refine s_seq ?_
  | ((with_reducible refine' e_var ?h ?_); (case h => exact rfl))
  | with_reducible refine e_int ?_
  | with_reducible refine e_str ?_
  | with_reducible refine e_non ?_
  | with_reducible refine e_bl ?_
  | with_reducible refine d_nil ?_
  | with_reducible refine d_cons ?_
  | with_reducible refine a_nil ?_
  | ((with_reducible refine' a_f ?h ?_); (case h => exact rfl))
  | with_reducible refine a_d ?_
  | with_reducible refine e_tup ?_
  | ((with_reducible refine' e_neg ?_))
  | with_reducible refine e_new (n_lst ?_)
  | with_reducible refine e_new (n_cat ?_)
  | with_reducible refine e_new (k_within ?_)
  | with_reducible refine k_within ?_
  | with_reducible refine n_lst ?_
  | with_reducible refine n_cat ?_
  | with_reducible refine e_op ?_
  | ((with_reducible refine' x_add ?a ?b ?_); (case a => exact rfl); (case b => exact rfl))
  | ((with_reducible refine' x_sub ?a ?b ?_); (case a => exact rfl); (case b => exact rfl))
  | ((with_reducible refine' x_ixT ?a ?b ?e ?_); (case a => exact rfl); (case b => exact rfl); (case e => exact rfl))
  | ((with_reducible refine' x_ixL ?a ?b ?e ?_); (case a => exact rfl); (case b => exact rfl); (case e => exact rfl))
  | ((with_reducible refine' x_ixT ?a ?b ?e ?_); (case a => exact rfl); (case b => exact rfl); (case e => assumption))
  | ((with_reducible refine' x_ixL ?a ?b ?e ?_); (case a => exact rfl); (case b => exact rfl); (case e => assumption))
  | ((with_reducible refine' x_eqI ?a ?b ?_); (case a => exact rfl); (case b => exact rfl))
  | ((with_reducible refine' x_neI ?a ?b ?_); (case a => exact rfl); (case b => exact rfl))
  | ((with_reducible refine' x_eqS (b := true) ?a ?b ?e ?f ?g ?_); (case a => exact rfl); (case b => exact rfl); (case e => decide +kernel); (case f => decide +kernel); (case g => decide +kernel))
  | ((with_reducible refine' x_eqS (b := false) ?a ?b ?e ?f ?g ?_); (case a => exact rfl); (case b => exact rfl); (case e => decide +kernel); (case f => decide +kernel); (case g => decide +kernel))
  | ((with_reducible refine' x_neS (b := true) ?a ?b ?e ?f ?g ?_); (case a => exact rfl); (case b => exact rfl); (case e => decide +kernel); (case f => decide +kernel); (case g => decide +kernel))
  | ((with_reducible refine' x_neS (b := false) ?a ?b ?e ?f ?g ?_); (case a => exact rfl); (case b => exact rfl); (case e => decide +kernel); (case f => decide +kernel); (case g => decide +kernel))
  | ((with_reducible refine' x_notN (b := true) ?a ?b ?_); (case a => exact rfl); (case b => exact rfl))
  | ((with_reducible refine' x_notN (b := false) ?a ?b ?_); (case a => exact rfl); (case b => exact rfl))
  | with_reducible refine t_test ?_
  | with_reducible refine t_B ?_
  | with_reducible refine t_and ?_
  | with_reducible refine t_or ?_
  | with_reducible refine t_not ?_
  | with_reducible refine t_yes ?_
  | with_reducible refine e_not ?_
  | with_reducible refine e_if ?_
  | ((with_reducible refine' e_clocks ?T ?h ?_); (case T => assumption); (case h => exact rfl))
  | ((with_reducible refine' e_links ?T ?h ?_); (case T => assumption); (case h => exact rfl))
  | ((with_reducible refine' e_sources ?T ?h ?_); (case T => assumption); (case h => exact rfl))
  | with_reducible refine e_len ?_
  | with_reducible refine e_int1 ?_
  | with_reducible refine s_if ?_
  | with_reducible refine s_next ?_
  | with_reducible refine g_name ?_
  | ((with_reducible refine' ⟨_, ?e, ?_⟩); (case e => exact rfl))
  | ((with_reducible refine' ⟨_, _, _, _, _, ?e, ?_⟩); (case e => exact rfl))
  | ((with_reducible refine' ⟨_, _, ?a, ?b, ?e, ?_⟩); (case a => exact rfl); (case b => exact rfl); (case e => exact Nat.le_of_ble_eq_true rfl))
  | with_reducible refine ⟨Nat.le_of_ble_eq_true rfl, ?_⟩
  | ((with_reducible refine' ⟨fun _ => ?_, ?x⟩); (case x => (intro h; exact (nomatch (show true = false from h)))))
  | ((with_reducible refine' ⟨?x, fun _ => ?_⟩); (case x => (intro h; exact (nomatch (show false = true from h))))))
local macro_rules | `(tactic| walk_at "wx") => `(tactic| repeat (walk_at "w3"))
local macro_rules | `(tactic| walk_at "ws") => `(tactic| repeat (first | walk_at "w3" | with_reducible refine s_set ?_ | with_reducible refine s_ret ?_))
def vwG (f : FrD) (v0 v1 : List Ev) (rows : List Bd) (gs : List En) : List En := .fr f.fr :: .is (viewD v0 v1) :: .is (.list (rows.map Bd.d)) :: gs
def outR (f : FrD) (v0 v1 : List Ev) : Nat → List Bd
  | 0 => []
  | 1 => (devSt f v0 0 v0 (v0.length - 1)).1
  | _ => allB f v0 v1
theorem outR_len {f : FrD} {v0 v1 : List Ev} (hp : ViewOk f v0 v1) (i : Nat) (h : i < 2) : (outR f v0 v1 i).length ≤ 70000 := by
  have h0 := devSt_len hp.fr v0 0 v0 (v0.length - 1)
  have n0 := hp.n0
  match i, h with
  | 0, _ => exact Nat.zero_le _
  | 1, _ =>
    show (devSt f v0 0 v0 (v0.length - 1)).1.length ≤ 70000
    have : 700 * (v0.length - 1) ≤ 700 * 100 := Nat.mul_le_mul_left 700 (by omega)
    omega
theorem wp_viewBounds (c : Cn) (f : FrD) (v0 v1 : List Ev) (hp : ViewOk f v0 v1) :
    wpS c (t_viewBounds c.K c.C) (gam [.f f.fr, .d (viewD v0 v1)] 8) (fun _ => False) fun r _ => ∃ d, r = .d d ∧ d = .list ((allB f v0 v1).map Bd.d) := by
  have hol := outR_len hp
  obtain ⟨ok, n0, n1, e0, e1⟩ := hp
  unfold t_viewBounds
  walk_at "wx"
  refine s_set ?_
  walk_at "wx"
  refine s_nrm (γ' := vwG f v0 v1 (outR f v0 v1 0) [.no, .no, .no, .no, .no, .no, .no]) rfl ?_
  refine s_for (js := [3, 4]) (i_enum ?_)
  walk_at "wx"
  refine ⟨fun i γ' => ∃ g0 g1 g2 g3 g4 g5 g6, γ' = vwG f v0 v1 (outR f v0 v1 i) [g0, g1, g2, g3, g4, g5, g6], ⟨_, _, _, _, _, _, _, rfl⟩, ?_, ?_⟩
  · rintro i γ' hi ⟨g0, g1, g2, g3, g4, g5, g6, rfl⟩
    have hi2 : i < 2 := hi
    obtain ⟨evs, hY, hE, hL, hO⟩ : ∃ evs : List Ev, ([PyData.list (v0.map Ev.d), .list (v1.map Ev.d)] : List PyData).getD i .none = .list (evs.map Ev.d) ∧ (∀ n : Nat, n + 1 < evs.length → EvOk f v0 (i : Int) (evs.getD (n + 1) default)) ∧ evs.length ≤ 100 ∧
        outR f v0 v1 (i + 1) = outR f v0 v1 i ++ (devSt f v0 (i : Int) evs (evs.length - 1)).1 := by
      match i, hi2 with
      | 0, _ => exact ⟨v0, rfl, e0, n0, rfl⟩
      | 1, _ => exact ⟨v1, rfl, e1, n1, rfl⟩
    have hR := hol i hi2
    show wpG c _ [3, 4] _ (PyData.tuple [.int (i : Nat), ([PyData.list (v0.map Ev.d), .list (v1.map Ev.d)] : List PyData).getD i .none]) _
    rw [hY]
    unfold vwG
    generalize outR f v0 v1 i = R0 at hO hR
    refine g_tup rfl (gs_cons (g_name (gs_cons (g_name (gs_nil ?_)))))
    walk_at "wx"
    refine s_set (e_new (k_firstHands ?_))
    walk_at "wx"
    refine ⟨f, (i : Int), rfl, ok, ?_⟩
    refine s_nrm (γ' := [.fr f.fr, .is (viewD v0 v1), .is (.list ((R0 ++ (devSt f v0 (i : Int) evs 0).1).map Bd.d)), .is (.int (i : Nat)), .is (.list (evs.map Ev.d)), .is (.list ((devSt f v0 (i : Int) evs 0).2.map Hd.d)), g3, g4, g5, g6]) (by show _ = _; unfold devSt; rw [List.append_nil]; rfl) ?_
    refine s_for (js := [6]) (i_range2 ?_)
    walk_at "wx"
    refine ⟨1, ((evs.map Ev.d).length : Int), rfl, by rw [List.length_map]; omega, ?_⟩
    rw [List.length_map]
    have hn : ((evs.length : Int) - 1).toNat = evs.length - 1 := by omega
    rw [hn]
    refine ⟨fun k γ' => ∃ h0 h1 h2 h3, γ' = [.fr f.fr, .is (viewD v0 v1), .is (.list ((R0 ++ (devSt f v0 (i : Int) evs k).1).map Bd.d)), .is (.int (i : Nat)), .is (.list (evs.map Ev.d)), .is (.list ((devSt f v0 (i : Int) evs k).2.map Hd.d)), h0, h1, h2, h3], ⟨_, _, _, _, rfl⟩, ?_, ?_⟩
    · rintro k γ' hk ⟨h0, h1, h2, h3, rfl⟩
      have hke : k + 1 < evs.length := by omega
      have ev := hE k hke
      have hkI : (1 + (k : Int)) = ((k + 1 : Nat) : Int) := by omega
      show wpG c _ [6] _ (PyData.int (1 + (k : Int))) _
      rw [hkI]
      have hev : datI (evs.map Ev.d) ((k + 1 : Nat) : Int) = some (evs.getD (k + 1) default).d := datI_getD default hke
      have hst : devSt f v0 (i : Int) evs (k + 1) = ((devSt f v0 (i : Int) evs k).1 ++ (eventB f (i : Int) ((k + 1 : Nat) : Int) (evs.getD (k + 1) default) (devSt f v0 (i : Int) evs k).2 (kindOf v0 (evs.getD (k + 1) default).deed)).1,
        (eventB f (i : Int) ((k + 1 : Nat) : Int) (evs.getD (k + 1) default) (devSt f v0 (i : Int) evs k).2 (kindOf v0 (evs.getD (k + 1) default).deed)).2) := rfl
      have l1 := devSt_len ok v0 (i : Int) evs k
      have l1' : 700 * k ≤ 700 * 100 := Nat.mul_le_mul_left 700 (by omega)
      have l2 := devSt_hands (f := f) v0 (i : Int) evs k
      have l3 := eventB_len ok (i : Int) ((k + 1 : Nat) : Int) (evs.getD (k + 1) default) (devSt f v0 (i : Int) evs k).2 (kindOf v0 (evs.getD (k + 1) default).deed)
      generalize evs.getD (k + 1) default = e at hev hst ev l3
      dsimp only
      rw [hst]
      generalize devSt f v0 (i : Int) evs k = S at l1 l2 l3 ⊢
      obtain ⟨Sr, Sh⟩ := S
      dsimp only at l1 l2 l3 ⊢
      refine g_name ?_
      walk_at "ws"
      refine k_sentKind ?_
      walk_at "wx"
      refine ⟨f, v0, v1, e.deed, rfl, ⟨ok, ev.hear⟩, ?_⟩
      walk_at "wx"
      refine s_asg (js := [9, 5]) (k_eventBounds ?_)
      walk_at "wx"
      refine ⟨f, (i : Int), ((k + 1 : Nat) : Int), e, Sh, kindOf v0 e.deed, rfl, ⟨ok, ⟨v0, ev⟩, l2⟩, ?_⟩
      generalize eventB f (i : Int) ((k + 1 : Nat) : Int) e Sh (kindOf v0 e.deed) = r at l3 ⊢
      obtain ⟨rb, rh⟩ := r
      dsimp only at l3 ⊢
      refine g_tup rfl (gs_cons (g_name (gs_cons (g_name (gs_nil ?_)))))
      walk_at "wx"
      refine s_set ?_
      walk_at "wx"
      refine ⟨_, _, rfl, rfl, by rw [List.length_map, List.length_map, List.length_append]; omega, ?_⟩
      refine' ⟨_, _, _, _, ?h⟩
      case h =>
        rw [← List.append_assoc, List.map_append (l₁ := R0 ++ Sr)]
        exact rfl
    · rintro γ' ⟨h0, h1, h2, h3, rfl⟩
      rw [← hO]
      exact ⟨_, _, _, _, _, _, _, rfl⟩
  · rintro γ' ⟨g0, g1, g2, g3, g4, g5, g6, rfl⟩
    refine s_ret (e_var rfl ⟨_, rfl, rfl⟩)
end W3

/-! ## LayQ -/
namespace W3
open PySem L2

/-! ### the promises of the law's own defs -/
structure A_take where
  p : Addr
  at_ : Int
  many : Int
def sp_take (K : Fg) (C : Addr) : Sp := spE K C (fun a : A_take => [.rows a.p, .is (.int a.at_), .is (.int a.many)]) (fun a b => b = a.p) (fun a => 0 ≤ a.at_ ∧ a.at_ < 18 ∧ 0 < a.many ∧ a.many < 1000000)
  fun a r γ' => γ'[0]? = some (.rows a.p) ∧ ∃ x : Int, r = .d (.int x) ∧ 0 ≤ x ∧ x < a.many
def sp_draws (K : Fg) (C : Addr) : Sp := spE K C (fun ns : List Int => [.scr ns, .is (.int 18)]) (fun _ => NoM) (fun ns => ns.length ≤ 1000) fun ns r _ => ∃ l : List Int, l.length = 18 ∧ r = .l (l.map .int)
def sp_mkFrame (K : Fg) (C : Addr) : Sp := spE K C (fun p : Addr => [.rows p]) (fun p b => b = p) (fun _ => True) fun p r γ' => γ'[0]? = some (.rows p) ∧ ∃ f : FrD, FrOk f ∧ r = .f f.fr
def natD (n : Nat) : PyData := .int (n : Int)
structure A_deed where
  p : Addr
  at_ : Int
  f : FrD
  dev : Int
  q : Addr
  words : List Nat
structure DdOk (f : FrD) (dev : Int) (words : List Nat) (d : Dd) : Prop where
  anew : ∀ ks, d = .anew ks → ks.length = (mine f.cks dev).length
  mark : ∀ s k v, d = .mark s k v → s < f.srs.length
  hear : ∀ n, d = .hear n → dev = 1 ∧ n ∈ words
def sp_deed (K : Fg) (C : Addr) : Sp := spE K C (fun a : A_deed => [.rows a.p, .is (.int a.at_), .fr a.f.fr, .is (.int a.dev), .par false a.q (a.words.map natD)]) (fun a b => b = a.p)
  (fun a => FrOk a.f ∧ (0 ≤ a.at_ ∧ a.at_ < 18) ∧ a.words.length ≤ 100) fun a r γ' => γ'[0]? = some (.rows a.p) ∧ ∃ d : Dd, DdOk a.f a.dev a.words d ∧ r = .d d.d
structure A_events where
  p : Addr
  f : FrD
  dev : Int
  q : Addr
  words : List Nat
structure EvW (f : FrD) (dev : Int) (words : List Nat) (e : Ev) : Prop where
  sh : e.shown.length = (mine f.cks dev).length
  af : e.after.length = (mine f.cks dev).length
  dd : DdOk f dev words e.deed
structure EvsOk (a : A_events) (evs : List Ev) (words' : List Nat) : Prop where
  len : evs.length ≤ 7
  pos : 0 < evs.length
  ok : ∀ n : Nat, n + 1 < evs.length → EvW a.f a.dev a.words (evs.getD (n + 1) default)
  one : a.dev ≠ 0 → words' = a.words
  new : ∀ w ∈ words', w ∈ a.words ∨ w < evs.length
  wl : words'.length ≤ a.words.length + evs.length
def sp_events (K : Fg) (C : Addr) : Sp := spE K C (fun a : A_events => [.rows a.p, .fr a.f.fr, .is (.int a.dev), .par true a.q (a.words.map natD)]) (fun a b => b = a.p ∨ b = a.q)
  (fun a => FrOk a.f ∧ (a.dev = 0 ∨ a.dev = 1) ∧ a.words.length ≤ 50) fun a r γ' => γ'[0]? = some (.rows a.p) ∧ ∃ (evs : List Ev) (words' : List Nat), γ'[3]? = some (.par true a.q (words'.map natD)) ∧ r = .l (evs.map Ev.d) ∧ EvsOk a evs words'
structure A_asked where
  f : FrD
  v0 : List Ev
  v1 : List Ev
  dev : Nat
  q : Addr
  due : List Bd
def devB (f : FrD) (v0 v1 : List Ev) (dev : Nat) : List Bd := (devSt f v0 (dev : Int) (if dev = 0 then v0 else v1) ((if dev = 0 then v0 else v1).length - 1)).1
def sp_asked (K : Fg) (C : Addr) : Sp := spE K C (fun a : A_asked => [.fr a.f.fr, .is (viewD a.v0 a.v1), .is (.int a.dev), .par true a.q (a.due.map Bd.d)]) (fun a b => b = a.q)
  (fun a => ViewOk a.f a.v0 a.v1 ∧ a.dev < 2 ∧ a.due.length ≤ 70000) fun a r γ' => r = .d (.bool true) ∧ γ'[3]? = some (.par true a.q ((a.due ++ devB a.f a.v0 a.v1 a.dev).map Bd.d))
/-- Frame.__init__: the instance at x gets its five attributes, each a new list (but the last) -/
def sp_init (K : Fg) (C : Addr) : Sp := fun vs H Q _ => ∃ (G : Hp) (x dx : Addr) (vd vc vl vs' vf : V) (dd cc ll ss : List PyData), vs = [.ref x, vd, vc, vl, vs', vf] ∧ Same G H ∧ G x = none ∧ H x = some (.ins C dx []) ∧
  Da K G vd (.list dd) ∧ Da K G vc (.list cc) ∧ Da K G vl (.list ll) ∧ Da K G vs' (.list ss) ∧
  ∀ G' H' fs, Grow (fun b => b = x) G H G' H' → H' x = some (.ins C dx fs) → FrFs K G' fs ⟨cc, ll, ss⟩ → Q .non H'

/-! ### the rows, read and written; the calls -/
section
variable {c : Cn} {γ : List En} {P : PyData → Prop} {te ti tb : TE} {tl : TA}
theorem e_ixRows {i : Nat} {p : Addr} (h : γ[i]? = some (.rows p)) (h2 : wpE c tb γ fun d => ∃ j : Int, d = .int j ∧ (0 ≤ j ∧ j < 18) ∧ ∀ n, P (.int n)) : wpE c (tOp (rIx c.K) (tVar i) tb) γ P := fun σ G H s Q q => by
  obtain ⟨ns, e1, e2, e3, e4, e5⟩ := s.ent i _ h
  refine ⟨_, e1, h2 σ G H s _ fun y d G1 H1 h1 a1 s1 g1 => ?_⟩
  obtain ⟨j, rfl, ⟨j0, j1⟩, hp⟩ := h1
  obtain rfl := a1.int_inv
  obtain ⟨ns', e1', e2', e3', e4', e5'⟩ := s1.ent i _ h
  have hj : j = ((j.toNat : Nat) : Int) := (Int.toNat_of_nonneg j0).symm
  have hlt : j.toNat < ns'.length := by omega
  refine .inl ⟨p, _, j, .int (ns'.getD j.toNat 0), rfl, rfl, SqL.of e3', ?_, q _ _ G1 H1 (hp _) (.int _) s1 g1⟩
  have e : (ns'.map V.int)[j.toNat]? = some (.int (ns'.getD j.toNat 0)) := by rw [List.getElem?_map, getD_of 0 hlt]; rfl
  have := atI_nat e
  rwa [← hj] at this
theorem s_itemRows {i : Nat} {p : Addr} {N : List En → Prop} {R : Rt → List En → Prop} (h : γ[i]? = some (.rows p)) (k : wpE c te γ fun d => ∃ z : Int, d = .int z ∧ wpE c ti γ fun dj => ∃ j : Int, dj = .int j ∧ (0 ≤ j ∧ j < 18) ∧ N γ) :
    wpS c (tAsg te (gSub (tVar i) ti rSetL)) γ N R := fun σ G H s D qn qr =>
  k σ G H s _ fun v d G1 H1 h1 a1 s1 g1 => by
    obtain ⟨z, rfl, h1⟩ := h1
    obtain rfl := a1.int_inv
    obtain ⟨ns, e1, e2, e3, e4, e5⟩ := s1.ent i _ h
    refine ⟨_, e1, h1 σ G1 H1 s1 _ fun w dj G2 H2 h2 a2 s2 g2 => ?_⟩
    obtain ⟨j, rfl, ⟨j0, j1⟩, n⟩ := h2
    obtain rfl := a2.int_inv
    obtain ⟨ns', e1', e2', e3', e4', e5'⟩ := s2.ent i _ h
    have em : (ns'.map V.int).set j.toNat (.int z) = (ns'.set j.toNat z).map V.int := by rw [List.map_set]
    have s3 : S3 c (γ.set i (.rows p)) σ G2 (upd H2 p (.lst ((ns'.map V.int).set j.toNat (.int z)))) := s2.put h rfl e1' e5' ⟨ns'.set j.toNat z, e1', e2', by rw [upd_same, em], by rw [List.length_set]; exact e4', e5'⟩
    have eg : γ.set i (.rows p) = γ := by
      apply List.ext_getElem?
      intro m
      by_cases hm : m = i
      · subst hm
        rw [List.getElem?_set_self (List.getElem?_eq_some_iff.mp h).1, h]
      · rw [List.getElem?_set_ne (Ne.symm hm)]
    rw [eg] at s3
    refine ⟨p, ns'.map V.int, j, j.toNat, rfl, rfl, e3', ?_, qn γ σ G2 _ n s3 (g1.gg.trans g2.gg)⟩
    unfold ixN
    rw [if_pos j0, if_pos (by rw [List.length_map]; omega)]
theorem ArsAt.cons_inv {K : Fg} {C : Addr} {σ : L2.St} {G : Hp} {a : Ar} {as : List Ar} {vs : List V} (h : ArsAt K C σ G (a :: as) vs) : ∃ v vs', vs = v :: vs' ∧ ArAt K C σ G a v ∧ ArsAt K C σ G as vs' := by
  cases h with
  | cons h1 h2 => exact ⟨_, _, rfl, h1, h2⟩
theorem ArsAt.nil_inv {K : Fg} {C : Addr} {σ : L2.St} {G : Hp} {vs : List V} (h : ArsAt K C σ G [] vs) : vs = [] := by cases h; rfl
theorem e_take (h : wpA c tl γ fun as => ∃ (i : Nat) (p : Addr) (a m : Int), as = [.m i, .d (.int a), .d (.int m)] ∧ γ[i]? = some (.rows p) ∧ (0 ≤ a ∧ a < 18 ∧ 0 < m ∧ m < 1000000) ∧ ∀ x : Int, 0 ≤ x → x < m → P (.int x)) :
    wpE c (tCall (sp_take c.K c.C) [] E0 tl) γ P := fun σ G H s Q q =>
  h σ G H s _ fun vs as G1 H1 h1 a1 s1 g1 => by
    obtain ⟨i, p, a, m, rfl, hi, hp, k⟩ := h1
    obtain ⟨v0, r0, rfl, b0, a1⟩ := a1.cons_inv
    obtain ⟨v1, r1, rfl, b1, a1⟩ := a1.cons_inv
    obtain ⟨v2, r2, rfl, b2, a1⟩ := a1.cons_inv
    obtain rfl := a1.nil_inv
    rw [List.append_nil]
    obtain ⟨ns, e1, e2, e3, e4, e5⟩ := s1.ent i _ hi
    have e0 : v0 = .ref p := Option.some.inj (Option.some.inj ((show σ[i]? = some (some v0) from b0).symm.trans e1))
    subst e0
    refine ⟨G1, ⟨p, a, m⟩, s1.same, ⟨rfl, ?_, ?_⟩, hp, ?_⟩
    · intro j e hj
      match j, hj with
      | 0, hj => cases hj; exact ⟨_, rfl, ns, rfl, e2, e3, e4, .inl rfl⟩
      | 1, hj => cases hj; exact ⟨_, rfl, v1, rfl, b1⟩
      | 2, hj => cases hj; exact ⟨_, rfl, v2, rfl, b2⟩
    · intro j j' ej ej' r h1 h2 m1 m2 _ _
      have z : ∀ (k : Nat) (ek : En), ([.rows p, .is (.int a), .is (.int m)] : List En)[k]? = some ek → isMut ek = true → k = 0 := fun k ek hk mk => by
        match k, hk with
        | 0, _ => rfl
        | 1, hk => cases hk; cases mk
        | 2, hk => cases hk; cases mk
      rw [z j ej h1 m1, z j' ej' h2 m2]
    · rintro v r γ' σ' G' H' ⟨hr0, x, rfl, x0, x1⟩ ra s'
      obtain ⟨ns', f1, f2, f3, f4, f5⟩ := s'.ent 0 _ hr0
      obtain ⟨s2, g2⟩ := s1.wrote hi s'.grow f2 f3 f4
      exact q v _ G' H' (k x x0 x1) ra s2 (g1.trans g2)
theorem e_deed {f : FrD} (h : wpA c tl γ fun as => ∃ (i j : Nat) (p q : Addr) (w : Bool) (a dev : Int) (words : List Nat), as = [.m i, .d (.int a), .f f.fr, .d (.int dev), .m j] ∧ γ[i]? = some (.rows p) ∧ γ[j]? = some (.par w q (words.map natD)) ∧ (FrOk f ∧ (0 ≤ a ∧ a < 18) ∧ words.length ≤ 100) ∧ ∀ d : Dd, DdOk f dev words d → P d.d) :
    wpE c (tCall (sp_deed c.K c.C) [] E0 tl) γ P := fun σ G H s Q qq =>
  h σ G H s _ fun vs as G1 H1 h1 a1 s1 g1 => by
    obtain ⟨i, j, p, q, w, a, dev, words, rfl, hi, hj, hp, k⟩ := h1
    obtain ⟨v0, r0, rfl, b0, a1⟩ := a1.cons_inv
    obtain ⟨v1, r1, rfl, b1, a1⟩ := a1.cons_inv
    obtain ⟨v2, r2, rfl, b2, a1⟩ := a1.cons_inv
    obtain ⟨v3, r3, rfl, b3, a1⟩ := a1.cons_inv
    obtain ⟨v4, r4, rfl, b4, a1⟩ := a1.cons_inv
    obtain rfl := a1.nil_inv
    rw [List.append_nil]
    obtain ⟨ns, e1, e2, e3, e4, e5⟩ := s1.ent i _ hi
    obtain ⟨xs, d1, d2, d3, d4, d5⟩ := s1.ent j _ hj
    have e0 : v0 = .ref p := Option.some.inj (Option.some.inj ((show σ[i]? = some (some v0) from b0).symm.trans e1))
    subst e0
    have e0 : v4 = .ref q := Option.some.inj (Option.some.inj ((show σ[j]? = some (some v4) from b4).symm.trans d1))
    subst e0
    have hpq : p ≠ q := fun z => by
      subst z
      have hij : i = j := s1.dis i j _ _ p hi hj rfl rfl e1 d1
      subst hij
      rw [hi] at hj
      cases hj
    refine ⟨G1, ⟨p, a, f, dev, q, words⟩, s1.same, ⟨rfl, ?_, ?_⟩, hp, ?_⟩
    · intro m e hm
      match m, hm with
      | 0, hm => cases hm; exact ⟨_, rfl, ns, rfl, e2, e3, e4, .inl rfl⟩
      | 1, hm => cases hm; exact ⟨_, rfl, v1, rfl, b1⟩
      | 2, hm => cases hm; exact ⟨_, rfl, v2, rfl, b2⟩
      | 3, hm => cases hm; exact ⟨_, rfl, v3, rfl, b3⟩
      | 4, hm => cases hm; exact ⟨_, rfl, xs, rfl, d2, d3, d4, fun z => by cases z⟩
    · intro m m' em em' r h1 h2 m1 m2 q1 q2
      match m, m', h1, h2 with
      | 0, 0, _, _ => rfl
      | 4, 4, _, _ => rfl
      | 0, 4, _, _ => exact absurd ((V.ref.inj (Option.some.inj q1)).trans (V.ref.inj (Option.some.inj q2)).symm) hpq
      | 4, 0, _, _ => exact absurd ((V.ref.inj (Option.some.inj q2)).trans (V.ref.inj (Option.some.inj q1)).symm) hpq
      | 1, _, h1, _ => cases h1; cases m1
      | 2, _, h1, _ => cases h1; cases m1
      | 3, _, h1, _ => cases h1; cases m1
      | 0, 1, _, h2 => cases h2; cases m2
      | 0, 2, _, h2 => cases h2; cases m2
      | 0, 3, _, h2 => cases h2; cases m2
      | 4, 1, _, h2 => cases h2; cases m2
      | 4, 2, _, h2 => cases h2; cases m2
      | 4, 3, _, h2 => cases h2; cases m2
    · rintro v r γ' σ' G' H' ⟨hr0, d, dok, rfl⟩ ra s'
      obtain ⟨ns', f1, f2, f3, f4, f5⟩ := s'.ent 0 _ hr0
      obtain ⟨s2, g2⟩ := s1.wrote hi s'.grow f2 f3 f4
      exact qq v _ G' H' (k d dok) ra s2 (g1.trans g2)
end
/-! ### the readings (printed) -/
def t_take (K : Fg) (C : Addr) : TS :=
  (tSeq (tAsg (tOp oMod (tCB (rInt3) (tCons (tOp (rIx K) (tVar 0) (tVar 1)) tNil)) (tVar 2)) (gName 3))
  (tSeq (tAsg (tOp oDiv (tCB (rInt3) (tCons (tOp (rIx K) (tVar 0) (tVar 1)) tNil)) (tVar 2)) (gSub (tVar 0) (tVar 1) rSetL))
  (tRet (tVar 3))))
def t_draws_tail (K : Fg) (C : Addr) : TS :=
  (tSeq (tIfS (tTest (tOp oLt (tVar 4) (tC (.int 0)))) (tAsg (tOp oSub (tC (.int 1)) (tOp oMul (tC (.int 2)) (tVar 4))) (gName 4)) tNext)
  (tSeq (tIfS (tTest (tOp oLt (tVar 4) (tC (.int 1000000000)))) (tSeq (tAsg (tOp oMod (tCB (rInt3) (tCons (tOp oAdd (tOp oMul (tOp oAdd (tOp oAdd (tVar 4) (tOp oMul (tC (.int 7)) (tVar 3))) (tC (.int 3))) (tC (.int 1103515245))) (tOp oMul (tOp oMul (tVar 3) (tVar 3)) (tC (.int 12345)))) tNil)) (tC (.int 2305843009213693951))) (gName 4))
  (tAsg (tOp oMod (tCB (rInt3) (tCons (tOp oAdd (tOp oMul (tVar 4) (tC (.int 6364136223846793005))) (tC (.int 1442695040888963407))) tNil)) (tC (.int 9223372036854775783))) (gName 4))) tNext)
  (tDrop (tBM K "list" rAppend (tVar 2) (tCons (tVar 4) tNil)))))
def t_draws (K : Fg) (C : Addr) : TS :=
  (tSeq (tAsg (tLst tNil) (gName 2))
  (tSeq (tFor (iRng1 (tCons (tVar 1) tNil)) (gName 3) (tSeq (tAsg (tC (.int 0)) (gName 4))
  (tSeq (tIfS (tTest (tOp oLt (tVar 3) (tCB (rLen3 K) (tCons (tVar 0) tNil)))) (tAsg (tCB (rInt3) (tCons (tOp (rIx K) (tVar 0) (tVar 3)) tNil)) (gName 4)) tNext)
  (t_draws_tail K C))))
  (tRet (tVar 2))))
def t_init (K : Fg) (C : Addr) : TS :=
  (tSeq (sFld K (tVar 0) (tCB (rList3 K) (tCons (tVar 1) tNil)) "devices")
  (tSeq (sFld K (tVar 0) (tCB (rList3 K) (tCons (tVar 2) tNil)) "clocks")
  (tSeq (sFld K (tVar 0) (tCB (rList3 K) (tCons (tVar 3) tNil)) "links")
  (tSeq (sFld K (tVar 0) (tCB (rList3 K) (tCons (tVar 4) tNil)) "sources")
  (sFld K (tVar 0) (tVar 5) "faults")))))
def t_mkFrame (K : Fg) (C : Addr) : TS :=
  (tSeq (tAsg (tLst tNil) (gName 1))
  (tSeq (tFor (iRng1 (tCons (tOp oAdd (tC (.int 2)) (tCall (sp_take K C) [] E0 (tCons (tVar 0) (tCons (tC (.int 0)) (tCons (tC (.int 3)) tNil))))) tNil)) (gName 2) (tSeq (tAsg (tCall (sp_take K C) [] E0 (tCons (tVar 0) (tCons (tC (.int 0)) (tCons (tC (.int 2)) tNil)))) (gName 3))
  (tSeq (tIfS (tTest (tOp oLt (tVar 2) (tC (.int 2)))) (tAsg (tOp oMod (tCB (rInt3) (tCons (tOp oAdd (tVar 2) (tCall (sp_take K C) [] E0 (tCons (tVar 0) (tCons (tC (.int 0)) (tCons (tC (.int 2)) tNil))))) tNil)) (tC (.int 2))) (gName 3)) tNext)
  (tSeq (tAsg (tOp oAdd (tC (.int 1)) (tCall (sp_take K C) [] E0 (tCons (tVar 0) (tCons (tC (.int 0)) (tCons (tC (.int 4)) tNil))))) (gName 4))
  (tSeq (tAsg (tOp oAdd (tC (.int 1)) (tCall (sp_take K C) [] E0 (tCons (tVar 0) (tCons (tC (.int 1)) (tCons (tC (.int 4)) tNil))))) (gName 5))
  (tSeq (tAsg (tTup (tCons (tTup (tCons (tC (.str "k")) (tCons (tVar 4) (tCons (tOp oAdd (tVar 4) (tCall (sp_take K C) [] E0 (tCons (tVar 0) (tCons (tC (.int 1)) (tCons (tC (.int 5)) tNil))))) tNil)))) (tCons (tTup (tCons (tC (.str "j")) (tCons (tVar 5) (tCons (tOp oAdd (tVar 5) (tCall (sp_take K C) [] E0 (tCons (tVar 0) (tCons (tC (.int 1)) (tCons (tC (.int 5)) tNil))))) tNil)))) tNil))) (gName 6))
  (tDrop (tBM K "list" rAppend (tVar 1) (tCons (tTup (tCons (tOp oCatS (tC (.str "c")) (tCB (rStr3) (tCons (tVar 2) tNil))) (tCons (tVar 3) (tCons (tOp (rEqD K) (tCall (sp_take K C) [] E0 (tCons (tVar 0) (tCons (tC (.int 1)) (tCons (tC (.int 2)) tNil)))) (tC (.int 1))) (tCons (tVar 6) tNil))))) tNil)))))))))
  (tSeq (tAsg (tLst tNil) (gName 7))
  (tSeq (tFor (iRng1 (tCons (tC (.int 2)) tNil)) (gName 2) (tSeq (tAsg (tCall (sp_take K C) [] E0 (tCons (tVar 0) (tCons (tC (.int 2)) (tCons (tC (.int 9)) tNil)))) (gName 8))
  (tDrop (tBM K "list" rAppend (tVar 7) (tCons (tTup (tCons (tOp oCatS (tC (.str "l")) (tCB (rStr3) (tCons (tVar 2) tNil))) (tCons (tVar 2) (tCons (tOp oSub (tC (.int 1)) (tVar 2)) (tCons (tTup (tCons (tTup (tCons (tC (.str "q")) (tCons (tVar 8) (tCons (tOp oAdd (tVar 8) (tCall (sp_take K C) [] E0 (tCons (tVar 0) (tCons (tC (.int 2)) (tCons (tC (.int 9)) tNil))))) tNil)))) (tCons (tTup (tCons (tC (.str "r")) (tCons (tOp oAdd (tVar 8) (tC (.int 1))) (tCons (tC .non) tNil)))) tNil))) tNil))))) tNil)))))
  (tSeq (tAsg (tLst tNil) (gName 9))
  (tSeq (tFor (iRng1 (tCons (tOp oAdd (tC (.int 1)) (tCall (sp_take K C) [] E0 (tCons (tVar 0) (tCons (tC (.int 2)) (tCons (tC (.int 2)) tNil))))) tNil)) (gName 2) (tSeq (tAsg (tCall (sp_take K C) [] E0 (tCons (tVar 0) (tCons (tC (.int 2)) (tCons (tC (.int 9)) tNil)))) (gName 10))
  (tDrop (tBM K "list" rAppend (tVar 9) (tCons (tTup (tCons (tOp oCatS (tC (.str "s")) (tCB (rStr3) (tCons (tVar 2) tNil))) (tCons (tCall (sp_take K C) [] E0 (tCons (tVar 0) (tCons (tC (.int 2)) (tCons (tC (.int 2)) tNil)))) (tCons (tTup (tCons (tTup (tCons (tC (.str "g")) (tCons (tVar 10) (tCons (tC (.int 3)) tNil)))) (tCons (tTup (tCons (tC (.str "h")) (tCons (tC (.int 2)) (tCons (tOp oAdd (tVar 10) (tC (.int 1))) tNil)))) tNil))) tNil)))) tNil)))))
  (tRet (tMake C (sp_init K C) [] E0 (tCons (tLst (tCons (tC (.str "a")) (tCons (tC (.str "b")) tNil))) (tCons (tVar 1) (tCons (tVar 7) (tCons (tVar 9) (tCons (tC (.int 0)) tNil)))))))))))))
def t_deed (K : Fg) (C : Addr) : TS :=
  (tSeq (tAsg (tCall (sp_take K C) [] E0 (tCons (tVar 0) (tCons (tVar 1) (tCons (tC (.int 9)) tNil)))) (gName 5))
  (tSeq (tAsg (tLc (iRng1 (tCons (tCB (rLen3 K) (tCons (tFld K (tVar 2) "clocks") tNil)) tNil)) (gName 8) (tTest (tOp (rEqD K) (tOp (rIx K) (tOp (rIx K) (tFld K (tVar 2) "clocks") (tVar 8)) (tC (.int 1))) (tVar 3))) (tVar 8) [8]) (gName 6))
  (tSeq (tAsg (tLc (iRng1 (tCons (tCB (rLen3 K) (tCons (tFld K (tVar 2) "sources") tNil)) tNil)) (gName 8) (tTest (tOp (rEqD K) (tOp (rIx K) (tOp (rIx K) (tFld K (tVar 2) "sources") (tVar 8)) (tC (.int 1))) (tVar 3))) (tVar 8) [8]) (gName 7))
  (tSeq (tIfS (tAnd (tTest (tOp (rEqD K) (tVar 5) (tC (.int 0)))) (tTest (tOp oGt (tCB (rLen3 K) (tCons (tVar 6) tNil)) (tC (.int 0))))) (tRet (tTup (tCons (tC (.str "kind")) (tCons (tOp (rIx K) (tVar 6) (tCall (sp_take K C) [] E0 (tCons (tVar 0) (tCons (tVar 1) (tCons (tCB (rLen3 K) (tCons (tVar 6) tNil)) tNil))))) (tCons (tCall (sp_take K C) [] E0 (tCons (tVar 0) (tCons (tVar 1) (tCons (tC (.int 2)) tNil)))) tNil))))) tNext)
  (tSeq (tIfS (tTest (tOp (rEqD K) (tVar 5) (tC (.int 1)))) (tRet (tTup (tCons (tC (.str "anew")) (tCons (tCB (rTuple3 K) (tCons (tLc (iList K (tVar 6)) (gName 8) tYes (tCall (sp_take K C) [] E0 (tCons (tVar 0) (tCons (tVar 1) (tCons (tC (.int 2)) tNil)))) [8]) tNil)) tNil)))) tNext)
  (tSeq (tIfS (tAnd (tTest (tOp oLt (tVar 5) (tC (.int 4)))) (tTest (tOp oGt (tCB (rLen3 K) (tCons (tVar 7) tNil)) (tC (.int 0))))) (tRet (tTup (tCons (tC (.str "mark")) (tCons (tOp (rIx K) (tVar 7) (tCall (sp_take K C) [] E0 (tCons (tVar 0) (tCons (tVar 1) (tCons (tCB (rLen3 K) (tCons (tVar 7) tNil)) tNil))))) (tCons (tCall (sp_take K C) [] E0 (tCons (tVar 0) (tCons (tVar 1) (tCons (tC (.int 2)) tNil)))) (tCons (tOp oSub (tCall (sp_take K C) [] E0 (tCons (tVar 0) (tCons (tVar 1) (tCons (tC (.int 90)) tNil)))) (tC (.int 20))) tNil)))))) tNext)
  (tSeq (tIfS (tAnd (tTest (tOp (rEqD K) (tVar 5) (tC (.int 4)))) (tTest (tOp (rEqD K) (tVar 3) (tC (.int 0))))) (tRet (tTup (tCons (tC (.str "send")) (tCons (tC (.int 0)) (tCons (tCall (sp_take K C) [] E0 (tCons (tVar 0) (tCons (tVar 1) (tCons (tC (.int 2)) tNil)))) tNil))))) tNext)
  (tSeq (tIfS (tAnd (tTest (tOp (rEqD K) (tVar 5) (tC (.int 5)))) (tTest (tOp (rEqD K) (tVar 3) (tC (.int 0))))) (tRet (tTup (tCons (tC (.str "tell")) (tCons (tC (.int 0)) tNil)))) tNext)
  (tSeq (tIfS (tAnd (tTest (tOp oGt (tVar 5) (tC (.int 3)))) (tAnd (tTest (tOp (rEqD K) (tVar 3) (tC (.int 1)))) (tTest (tOp oGt (tCB (rLen3 K) (tCons (tVar 4) tNil)) (tC (.int 0)))))) (tRet (tTup (tCons (tC (.str "hear")) (tCons (tC (.int 0)) (tCons (tOp (rIx K) (tVar 4) (tCall (sp_take K C) [] E0 (tCons (tVar 0) (tCons (tVar 1) (tCons (tCB (rLen3 K) (tCons (tVar 4) tNil)) tNil))))) tNil))))) tNext)
  (tSeq (tIfS (tTest (tOp (rEqD K) (tVar 5) (tC (.int 6)))) (tRet (tTup (tCons (tC (.str "commit")) (tCons (tCall (sp_take K C) [] E0 (tCons (tVar 0) (tCons (tVar 1) (tCons (tC (.int 50)) tNil)))) tNil)))) tNext)
  (tRet (tTup (tCons (tC (.str "note")) tNil)))))))))))))
def t_events (K : Fg) (C : Addr) : TS :=
  (tSeq (tAsg (tLst (tCons (tTup (tCons (tC (.bl false)) (tCons (tTup tNil) (tCons (tTup tNil) (tCons (tTup (tCons (tC (.str "note")) tNil)) (tCons (tTup (tCons (tC (.int 1)) (tCons (tC (.int 1)) tNil))) tNil)))))) tNil)) (gName 4))
  (tSeq (tAsg (tLc (iRng1 (tCons (tCB (rLen3 K) (tCons (tFld K (tVar 1) "clocks") tNil)) tNil)) (gName 11) (tTest (tOp (rEqD K) (tOp (rIx K) (tOp (rIx K) (tFld K (tVar 1) "clocks") (tVar 11)) (tC (.int 1))) (tVar 2))) (tVar 11) [11]) (gName 5))
  (tSeq (tAsg (tLc (iList K (tVar 5)) (gName 11) tYes (tOp oSub (tCall (sp_take K C) [] E0 (tCons (tVar 0) (tCons (tC (.int 3)) (tCons (tC (.int 9)) tNil)))) (tC (.int 4))) [11]) (gName 6))
  (tSeq (tFor (iRng2 (tCons (tC (.int 1)) (tCons (tOp oAdd (tC (.int 1)) (tCall (sp_take K C) [] E0 (tCons (tVar 0) (tCons (tC (.int 3)) (tCons (tC (.int 7)) tNil))))) tNil))) (gName 7) (tSeq (tAsg (tOp oAdd (tOp oAdd (tC (.int 4)) (tOp oMul (tC (.int 6)) (tVar 2))) (tVar 7)) (gName 8))
  (tSeq (tAsg (tLc (iList K (tVar 6)) (gName 12) tYes (tOp oSub (tOp oAdd (tVar 12) (tCall (sp_take K C) [] E0 (tCons (tVar 0) (tCons (tVar 8) (tCons (tC (.int 5)) tNil))))) (tC (.int 1))) [12]) (gName 6))
  (tSeq (tAsg (tCall (sp_deed K C) [] E0 (tCons (tVar 0) (tCons (tVar 8) (tCons (tVar 1) (tCons (tVar 2) (tCons (tVar 3) tNil)))))) (gName 9))
  (tSeq (tAsg (tCB (rList3 K) (tCons (tVar 6) tNil)) (gName 10))
  (tSeq (tIfS (tAnd (tTest (tOp (rEqD K) (tVar 9) (tTup (tCons (tC (.str "note")) tNil)))) (tAnd (tTest (tOp oGt (tCB (rLen3 K) (tCons (tVar 10) tNil)) (tC (.int 0)))) (tTest (tOp (rEqD K) (tCall (sp_take K C) [] E0 (tCons (tVar 0) (tCons (tVar 8) (tCons (tC (.int 2)) tNil)))) (tC (.int 0)))))) (tAsg (tOp oSub (tCall (sp_take K C) [] E0 (tCons (tVar 0) (tCons (tVar 8) (tCons (tC (.int 21)) tNil)))) (tC (.int 10))) (gSub (tVar 10) (tCall (sp_take K C) [] E0 (tCons (tVar 0) (tCons (tVar 8) (tCons (tCB (rLen3 K) (tCons (tVar 10) tNil)) tNil)))) rSetL)) tNext)
  (tSeq (tIfS (tAnd (tTest (tOp (rEqD K) (tVar 2) (tC (.int 0)))) (tTest (tOp (oIn K) (tOp (rIx K) (tVar 9) (tC (.int 0))) (tLst (tCons (tC (.str "send")) (tCons (tC (.str "tell")) tNil)))))) (tDrop (tBM K "list" rAppend (tVar 3) (tCons (tVar 7) tNil))) tNext)
  (tSeq (tDrop (tBM K "list" rAppend (tVar 4) (tCons (tTup (tCons (tOp (rEqD K) (tCall (sp_take K C) [] E0 (tCons (tVar 0) (tCons (tVar 8) (tCons (tC (.int 4)) tNil)))) (tC (.int 0))) (tCons (tCB (rTuple3 K) (tCons (tVar 6) tNil)) (tCons (tCB (rTuple3 K) (tCons (tVar 10) tNil)) (tCons (tVar 9) (tCons (tTup (tCons (tOp oAdd (tC (.int 1)) (tVar 7)) (tCons (tOp oAdd (tC (.int 1)) (tVar 7)) tNil))) tNil)))))) tNil)))
  (tAsg (tVar 10) (gName 6))))))))))
  (tRet (tVar 4))))))
def t_asked (K : Fg) (C : Addr) : TS :=
  (tSeq (tAsg (tCall (sp_firstHands K C) [] E0 (tCons (tVar 0) (tCons (tVar 2) tNil))) (gName 4))
  (tSeq (tAsg (tLc (iRng1 (tCons (tCB (rLen3 K) (tCons (tFld K (tVar 0) "clocks") tNil)) tNil)) (gName 17) (tTest (tOp (rEqD K) (tOp (rIx K) (tOp (rIx K) (tFld K (tVar 0) "clocks") (tVar 17)) (tC (.int 1))) (tVar 2))) (tVar 17) [17]) (gName 5))
  (tSeq (tIfS (tTest (tOp (rNeD K) (tVar 4) (tLc (iList K (tVar 5)) (gName 17) tYes (tTup (tCons (tC .non) (tCons (tC (.int 0)) (tCons (tC (.int 0)) tNil)))) [17]))) (tRet (tC (.bl false))) tNext)
  (tSeq (tFor (iRng2 (tCons (tC (.int 1)) (tCons (tCB (rLen3 K) (tCons (tOp (rIx K) (tVar 1) (tVar 2)) tNil)) tNil))) (gName 6) (tSeq (tAsg (tOp (rIx K) (tOp (rIx K) (tVar 1) (tVar 2)) (tVar 6)) (gName 7))
  (tSeq (tAsg (tTup (tCons (tVar 2) (tCons (tVar 6) (tCons (tUn tNegU (tC (.int 1))) tNil)))) (gName 8))
  (tSeq (tAsg (tTup (tCons (tC (.str "note")) tNil)) (gName 9))
  (tSeq (tIfS (tTest (tOp (rEqD K) (tOp (rIx K) (tOp (rIx K) (tVar 7) (tC (.int 3))) (tC (.int 0))) (tC (.str "hear")))) (tAsg (tOp (rIx K) (tOp (rIx K) (tOp (rIx K) (tVar 1) (tC (.int 0))) (tOp (rIx K) (tOp (rIx K) (tVar 7) (tC (.int 3))) (tC (.int 2)))) (tC (.int 3))) (gName 9)) tNext)
  (tSeq (tAsg (tLst (tCons (tTup (tCons (tVar 8) (tCons (tTup (tCons (tVar 2) (tCons (tOp oSub (tVar 6) (tC (.int 1))) (tCons (tUn tNegU (tC (.int 1))) tNil)))) (tCons (tC (.int 0)) (tCons (tUn tNegU (tC (.int 1))) tNil))))) tNil)) (gName 10))
  (tSeq (tAsg (tLst tNil) (gName 11))
  (tSeq (tFor (iRng1 (tCons (tCB (rLen3 K) (tCons (tVar 5) tNil)) tNil)) (gName 12) (tSeq (tAsg (tCall (sp_clockDue K C) [] E0 (tCons (tVar 0) (tCons (tOp (rIx K) (tVar 4) (tVar 12)) (tCons (tOp (rIx K) (tVar 5) (tVar 12)) (tCons (tVar 8) (tCons (tVar 7) (tCons (tVar 12) tNil))))))) (gTup K 2 (gCons (gName 13) (gCons (gName 14) gNil))))
  (tSeq (tAsg (tOp rCat (tVar 10) (tVar 13)) (gName 10))
  (tDrop (tBM K "list" rAppend (tVar 11) (tCons (tVar 14) tNil))))))
  (tSeq (tAsg (tOp rCat (tVar 10) (tCall (sp_restDue K C) [] E0 (tCons (tVar 0) (tCons (tVar 8) (tCons (tVar 7) (tCons (tVar 9) tNil)))))) (gName 10))
  (tSeq (tAsg (tCall (sp_eventBounds K C) [] E0 (tCons (tVar 0) (tCons (tTup (tCons (tVar 2) (tCons (tVar 6) (tCons (tVar 7) tNil)))) (tCons (tVar 4) (tCons (tCall (sp_lawKind K C) [] E0 (tCons (tVar 9) tNil)) tNil))))) (gTup K 2 (gCons (gName 15) (gCons (gName 4) gNil))))
  (tSeq (tIfS (tOr (tTest (tOp (rNeD K) (tVar 15) (tVar 10))) (tTest (tOp (rNeD K) (tVar 4) (tVar 11)))) (tRet (tC (.bl false))) tNext)
  (tFor (iList K (tVar 10)) (gName 16) (tDrop (tBM K "list" rAppend (tVar 3) (tCons (tVar 16) tNil)))))))))))))))
  (tRet (tC (.bl true)))))))
def t_law (K : Fg) (C : Addr) : TS :=
  (tSeq (tAsg (tCall (sp_draws K C) [] E0 (tCons (tVar 0) (tCons (tC (.int 18)) tNil))) (gName 1))
  (tSeq (tAsg (tCall (sp_mkFrame K C) [] E0 (tCons (tVar 1) tNil)) (gName 2))
  (tSeq (tAsg (tLst tNil) (gName 3))
  (tSeq (tAsg (tLst (tCons (tCall (sp_events K C) [] E0 (tCons (tVar 1) (tCons (tVar 2) (tCons (tC (.int 0)) (tCons (tVar 3) tNil))))) tNil)) (gName 4))
  (tSeq (tDrop (tBM K "list" rAppend (tVar 4) (tCons (tCall (sp_events K C) [] E0 (tCons (tVar 1) (tCons (tVar 2) (tCons (tC (.int 1)) (tCons (tVar 3) tNil))))) tNil)))
  (tSeq (tAsg (tLst tNil) (gName 5))
  (tSeq (tFor (iRng1 (tCons (tC (.int 2)) tNil)) (gName 6) (tIfS (tNot (tB (tCall (sp_asked K C) [] E0 (tCons (tVar 2) (tCons (tVar 4) (tCons (tVar 6) (tCons (tVar 5) tNil))))))) (tRet (tC (.bl false))) tNext))
  (tRet (tOp (rEqD K) (tCall (sp_viewBounds K C) [] E0 (tCons (tVar 2) (tCons (tVar 4) tNil))) (tVar 5))))))))))
end W3

/-! ## LayS10 -/
namespace W3
open PySem L2
/-- one step: the reading's head tells the rule; what it asks of data is shown by computing -/
local macro_rules | `(tactic| walk_at "w3") => `(tactic| first
  | with_reducible refine s_seq ?_
  | ((with_reducible refine' e_var ?h ?_); (case h => exact rfl))
  | with_reducible refine e_int ?_
  | with_reducible refine e_str ?_
  | with_reducible refine e_non ?_
  | with_reducible refine e_bl ?_
  | with_reducible refine d_nil ?_
  | with_reducible refine d_cons ?_
  | with_reducible refine a_nil ?_
  | ((with_reducible refine' a_f ?h ?_); (case h => exact rfl))
  | ((with_reducible refine' a_m ?h ?m ?_); (case h => exact rfl); (case m => exact rfl))
  | with_reducible refine a_d ?_
  | with_reducible refine e_tup ?_
  | ((with_reducible refine' e_neg ?_))
  | with_reducible refine e_new (n_lst ?_)
  | with_reducible refine e_new (n_cat ?_)
  | with_reducible refine e_new (k_within ?_)
  | with_reducible refine k_within ?_
  | with_reducible refine n_lst ?_
  | with_reducible refine n_cat ?_
  | ((with_reducible refine' e_ixRows ?h ?_); (case h => exact rfl))
  | ((with_reducible refine' e_ixOwn ?h ?l ?_); (case h => exact rfl); (case l => exact rfl))
  | ((with_reducible refine' e_ixScr ?h ?_); (case h => exact rfl))
  | with_reducible refine e_op ?_
  | ((with_reducible refine' x_add ?a ?b ?_); (case a => exact rfl); (case b => exact rfl))
  | ((with_reducible refine' x_sub ?a ?b ?_); (case a => exact rfl); (case b => exact rfl))
  | ((with_reducible refine' x_ixT ?a ?b ?e ?_); (case a => exact rfl); (case b => exact rfl); (case e => exact rfl))
  | ((with_reducible refine' x_ixL ?a ?b ?e ?_); (case a => exact rfl); (case b => exact rfl); (case e => exact rfl))
  | ((with_reducible refine' x_ixT ?a ?b ?e ?_); (case a => exact rfl); (case b => exact rfl); (case e => assumption))
  | ((with_reducible refine' x_ixL ?a ?b ?e ?_); (case a => exact rfl); (case b => exact rfl); (case e => assumption))
  | ((with_reducible refine' x_eqI ?a ?b ?_); (case a => exact rfl); (case b => exact rfl))
  | ((with_reducible refine' x_neI ?a ?b ?_); (case a => exact rfl); (case b => exact rfl))
  | ((with_reducible refine' x_eqS (b := true) ?a ?b ?e ?f ?g ?_); (case a => exact rfl); (case b => exact rfl); (case e => decide +kernel); (case f => decide +kernel); (case g => decide +kernel))
  | ((with_reducible refine' x_eqS (b := false) ?a ?b ?e ?f ?g ?_); (case a => exact rfl); (case b => exact rfl); (case e => decide +kernel); (case f => decide +kernel); (case g => decide +kernel))
  | ((with_reducible refine' x_neS (b := true) ?a ?b ?e ?f ?g ?_); (case a => exact rfl); (case b => exact rfl); (case e => decide +kernel); (case f => decide +kernel); (case g => decide +kernel))
  | ((with_reducible refine' x_neS (b := false) ?a ?b ?e ?f ?g ?_); (case a => exact rfl); (case b => exact rfl); (case e => decide +kernel); (case f => decide +kernel); (case g => decide +kernel))
  | ((with_reducible refine' x_notN (b := true) ?a ?b ?_); (case a => exact rfl); (case b => exact rfl))
  | ((with_reducible refine' x_notN (b := false) ?a ?b ?_); (case a => exact rfl); (case b => exact rfl))
  | with_reducible refine t_test ?_
  | with_reducible refine t_B ?_
  | with_reducible refine t_and ?_
  | with_reducible refine t_or ?_
  | with_reducible refine t_not ?_
  | with_reducible refine t_yes ?_
  | with_reducible refine e_not ?_
  | with_reducible refine e_if ?_
  | ((with_reducible refine' e_clocks ?T ?h ?_); (case T => assumption); (case h => exact rfl))
  | ((with_reducible refine' e_links ?T ?h ?_); (case T => assumption); (case h => exact rfl))
  | ((with_reducible refine' e_sources ?T ?h ?_); (case T => assumption); (case h => exact rfl))
  | ((with_reducible refine' e_lenOwn ?h ?l ?_); (case h => exact rfl); (case l => exact rfl))
  | ((with_reducible refine' e_lenScr ?h ?_); (case h => exact rfl))
  | with_reducible refine e_len ?_
  | ((with_reducible refine' e_tupleOwn ?h ?l ?_); (case h => exact rfl); (case l => exact rfl))
  | with_reducible refine e_tuple ?_
  | with_reducible refine e_int1 ?_
  | with_reducible refine s_if ?_
  | with_reducible refine s_next ?_
  | with_reducible refine g_name ?_
  | ((with_reducible refine' Exists.intro _ (And.intro ?e ?_)); (case e => exact rfl))
  | ((with_reducible refine' Exists.intro _ (Exists.intro _ (Exists.intro _ (Exists.intro _ (Exists.intro _ (And.intro ?e ?_)))))); (case e => exact rfl))
  | ((with_reducible refine' Exists.intro _ (Exists.intro _ (And.intro ?a (And.intro ?b (And.intro ?e ?_))))); (case a => exact rfl); (case b => exact rfl); (case e => exact Nat.le_of_ble_eq_true rfl))
  | with_reducible refine ⟨Nat.le_of_ble_eq_true rfl, ?_⟩
  | ((with_reducible refine' ⟨fun _ => ?_, ?x⟩); (case x => (intro h; exact (nomatch (show true = false from h)))))
  | ((with_reducible refine' ⟨?x, fun _ => ?_⟩); (case x => (intro h; exact (nomatch (show false = true from h))))))
local macro_rules | `(tactic| walk_at "wx") => `(tactic| repeat (walk_at "w3"))
local macro_rules | `(tactic| walk_at "ws") => `(tactic| repeat (first | walk_at "w3" | with_reducible refine s_set ?_ | with_reducible refine s_ret ?_))
local macro_rules | `(tactic| walk_at "wt") => `(tactic| ((with_reducible refine e_take ?_); (walk_at "wx"); (refine' ⟨_, _, _, _, ?e, ?h, ?b, ?_⟩); (case e => exact rfl); (case h => exact rfl); (case b => (refine ⟨?_, ?_, ?_, ?_⟩ <;> first | decide | omega))))
theorem wp_take (c : Cn) (p : Addr) (a m : Int) (hp : 0 ≤ a ∧ a < 18 ∧ 0 < m ∧ m < 1000000) :
    wpS c (t_take c.K c.C) ([.rows p, .is (.int a), .is (.int m)] ++ List.replicate 1 .no) (fun _ => False) fun r γ' => γ'[0]? = some (.rows p) ∧ ∃ x : Int, r = .d (.int x) ∧ 0 ≤ x ∧ x < m := by
  unfold t_take
  walk_at "wx"
  refine s_set ?_
  walk_at "wx"
  refine ⟨⟨hp.1, hp.2.1⟩, fun n => ?_⟩
  walk_at "wx"
  refine x_mod rfl rfl hp.2.2.1 ?_
  walk_at "wx"
  refine s_itemRows rfl ?_
  walk_at "wx"
  refine ⟨⟨hp.1, hp.2.1⟩, fun n' => ?_⟩
  walk_at "wx"
  refine x_div rfl rfl ⟨hp.2.2.1, by omega⟩ ?_
  walk_at "wx"
  refine ⟨⟨hp.1, hp.2.1⟩, ?_⟩
  walk_at "wx"
  refine s_ret ?_
  walk_at "wx"
  exact ⟨rfl, _, rfl, Int.emod_nonneg _ (by omega), Int.emod_lt_of_pos _ hp.2.2.1⟩
theorem wp_draws_tail (c : Cn) (ns : List Int) (l : List Int) (i : Nat) (hi : i < 18) (hl : l.length = i) (z : Int) :
    wpS c (t_draws_tail c.K c.C) [.scr ns, .is (.int 18), .own (l.map .int), .is (.int (0 + (i : Int))), .is (.int z)] (fun γ' => ∃ (l : List Int) (g3 g4 : En), l.length = i + 1 ∧ γ' = [.scr ns, .is (.int 18), .own (l.map .int), g3, g4])
      (fun r _ => ∃ l : List Int, l.length = 18 ∧ r = .l (l.map .int)) := by
  unfold t_draws_tail
  have last : ∀ y : Int, wpS c (tDrop (tBM c.K "list" rAppend (tVar 2) (tCons (tVar 4) tNil))) [.scr ns, .is (.int 18), .own (l.map .int), .is (.int (0 + (i : Int))), .is (.int y)] (fun γ' => ∃ (l : List Int) (g3 g4 : En), l.length = i + 1 ∧ γ' = [.scr ns, .is (.int 18), .own (l.map .int), g3, g4])
      (fun r _ => ∃ l : List Int, l.length = 18 ∧ r = .l (l.map .int)) := fun y => by
    refine s_app rfl (by rw [List.length_map]; omega) ?_
    walk_at "wx"
    refine ⟨l ++ [y], .is (.int (0 + (i : Int))), .is (.int y), by rw [List.length_append, hl]; rfl, ?_⟩
    rw [List.map_append]
    rfl
  have two : ∀ y : Int, wpS c (tSeq (tIfS (tTest (tOp oLt (tVar 4) (tC (.int 1000000000)))) (tSeq (tAsg (tOp oMod (tCB rInt3 (tCons (tOp oAdd (tOp oMul (tOp oAdd (tOp oAdd (tVar 4) (tOp oMul (tC (.int 7)) (tVar 3))) (tC (.int 3))) (tC (.int 1103515245))) (tOp oMul (tOp oMul (tVar 3) (tVar 3)) (tC (.int 12345)))) tNil)) (tC (.int 2305843009213693951))) (gName 4))
      (tAsg (tOp oMod (tCB rInt3 (tCons (tOp oAdd (tOp oMul (tVar 4) (tC (.int 6364136223846793005))) (tC (.int 1442695040888963407))) tNil)) (tC (.int 9223372036854775783))) (gName 4))) tNext)
      (tDrop (tBM c.K "list" rAppend (tVar 2) (tCons (tVar 4) tNil)))) [.scr ns, .is (.int 18), .own (l.map .int), .is (.int (0 + (i : Int))), .is (.int y)] (fun γ' => ∃ (l : List Int) (g3 g4 : En), l.length = i + 1 ∧ γ' = [.scr ns, .is (.int 18), .own (l.map .int), g3, g4])
      (fun r _ => ∃ l : List Int, l.length = 18 ∧ r = .l (l.map .int)) := fun y => by
    walk_at "wx"
    refine x_lt rfl rfl ?_
    walk_at "wx"
    refine ⟨fun _ => ?_, fun _ => ?_⟩
    · walk_at "wx"
      refine s_set ?_
      walk_at "wx"
      refine x_mul rfl rfl (.inl (by decide)) ?_
      walk_at "wx"
      refine x_mul rfl rfl (.inr (by decide)) ?_
      walk_at "wx"
      refine x_mul rfl rfl (.inl (by omega)) ?_
      walk_at "wx"
      refine x_mul rfl rfl (.inr (by decide)) ?_
      walk_at "wx"
      refine x_mod rfl rfl (by decide) ?_
      refine s_set ?_
      walk_at "wx"
      refine x_mul rfl rfl (.inr (by decide)) ?_
      walk_at "wx"
      refine x_mod rfl rfl (by decide) ?_
      exact last _
    · walk_at "wx"
      exact last y
  walk_at "wx"
  refine x_lt rfl rfl ?_
  walk_at "wx"
  refine ⟨fun _ => ?_, fun _ => ?_⟩
  · refine s_set ?_
    walk_at "wx"
    refine x_mul rfl rfl (.inl (by decide)) ?_
    refine x_sub rfl rfl ?_
    exact two _
  · refine s_next ?_
    exact two z
theorem wp_draws (c : Cn) (ns : List Int) (hp : ns.length ≤ 1000) :
    wpS c (t_draws c.K c.C) ([.scr ns, .is (.int 18)] ++ List.replicate 3 .no) (fun _ => False) fun r _ => ∃ l : List Int, l.length = 18 ∧ r = .l (l.map .int) := by
  unfold t_draws
  refine s_seq (s_setN ?_)
  walk_at "wx"
  refine s_for (js := [3]) (i_range1 ?_)
  walk_at "wx"
  refine ⟨by decide, by decide, ?_⟩
  refine ⟨fun i γ' => ∃ (l : List Int) (g3 g4 : En), l.length = i ∧ γ' = [.scr ns, .is (.int 18), .own (l.map .int), g3, g4], ⟨[], .no, .no, rfl, rfl⟩, ?_, ?_⟩
  · rintro i γ' hi ⟨l, g3, g4, hl, rfl⟩
    have hi18 : i < 18 := hi
    refine g_name ?_
    walk_at "wx"
    refine s_set ?_
    walk_at "wx"
    refine x_lt rfl rfl ?_
    walk_at "wx"
    refine ⟨fun h => ?_, fun _ => ?_⟩
    · have hl2 : (0 : Int) + (i : Int) < (ns.length : Int) := of_decide_eq_true h
      have hlt : i < ns.length := by omega
      refine s_set ?_
      walk_at "wx"
      refine ⟨0 + (i : Int), ns.getD i 0, rfl, by omega, ?_, ?_⟩
      · have e : (0 + (i : Int)).toNat = i := by omega
        rw [e]
        exact getD_of 0 hlt
      walk_at "wx"
      exact wp_draws_tail c ns l i hi18 hl _
    · refine s_next ?_
      exact wp_draws_tail c ns l i hi18 hl _
  · rintro γ' ⟨l, g3, g4, hl, rfl⟩
    refine s_retOwn rfl ⟨l, hl, rfl⟩
end W3

/-! ## LayS11 -/
namespace W3
open PySem L2
/-- one step: the reading's head tells the rule; what it asks of data is shown by computing -/
local macro_rules | `(tactic| walk_at "w3") => `(tactic| first
  | with_reducible refine s_seq ?_
  | ((with_reducible refine' e_var ?h ?_); (case h => exact rfl))
  | with_reducible refine e_int ?_
  | with_reducible refine e_str ?_
  | with_reducible refine e_non ?_
  | with_reducible refine e_bl ?_
  | with_reducible refine d_nil ?_
  | with_reducible refine d_cons ?_
  | with_reducible refine a_nil ?_
  | ((with_reducible refine' a_f ?h ?_); (case h => exact rfl))
  | ((with_reducible refine' a_m ?h ?m ?_); (case h => exact rfl); (case m => exact rfl))
  | with_reducible refine a_d ?_
  | with_reducible refine e_tup ?_
  | ((with_reducible refine' e_neg ?_))
  | with_reducible refine e_new (n_lst ?_)
  | with_reducible refine e_new (n_cat ?_)
  | with_reducible refine e_new (k_within ?_)
  | with_reducible refine k_within ?_
  | with_reducible refine n_lst ?_
  | with_reducible refine n_cat ?_
  | ((with_reducible refine' e_ixRows ?h ?_); (case h => exact rfl))
  | ((with_reducible refine' e_ixOwn ?h ?l ?_); (case h => exact rfl); (case l => exact rfl))
  | ((with_reducible refine' e_ixScr ?h ?_); (case h => exact rfl))
  | with_reducible refine e_op ?_
  | ((with_reducible refine' x_add ?a ?b ?_); (case a => exact rfl); (case b => exact rfl))
  | ((with_reducible refine' x_sub ?a ?b ?_); (case a => exact rfl); (case b => exact rfl))
  | ((with_reducible refine' x_ixT ?a ?b ?e ?_); (case a => exact rfl); (case b => exact rfl); (case e => exact rfl))
  | ((with_reducible refine' x_ixL ?a ?b ?e ?_); (case a => exact rfl); (case b => exact rfl); (case e => exact rfl))
  | ((with_reducible refine' x_ixT ?a ?b ?e ?_); (case a => exact rfl); (case b => exact rfl); (case e => assumption))
  | ((with_reducible refine' x_ixL ?a ?b ?e ?_); (case a => exact rfl); (case b => exact rfl); (case e => assumption))
  | ((with_reducible refine' x_eqI ?a ?b ?_); (case a => exact rfl); (case b => exact rfl))
  | ((with_reducible refine' x_neI ?a ?b ?_); (case a => exact rfl); (case b => exact rfl))
  | ((with_reducible refine' x_eqS (b := true) ?a ?b ?e ?f ?g ?_); (case a => exact rfl); (case b => exact rfl); (case e => decide +kernel); (case f => decide +kernel); (case g => decide +kernel))
  | ((with_reducible refine' x_eqS (b := false) ?a ?b ?e ?f ?g ?_); (case a => exact rfl); (case b => exact rfl); (case e => decide +kernel); (case f => decide +kernel); (case g => decide +kernel))
  | ((with_reducible refine' x_neS (b := true) ?a ?b ?e ?f ?g ?_); (case a => exact rfl); (case b => exact rfl); (case e => decide +kernel); (case f => decide +kernel); (case g => decide +kernel))
  | ((with_reducible refine' x_neS (b := false) ?a ?b ?e ?f ?g ?_); (case a => exact rfl); (case b => exact rfl); (case e => decide +kernel); (case f => decide +kernel); (case g => decide +kernel))
  | ((with_reducible refine' x_notN (b := true) ?a ?b ?_); (case a => exact rfl); (case b => exact rfl))
  | ((with_reducible refine' x_notN (b := false) ?a ?b ?_); (case a => exact rfl); (case b => exact rfl))
  | with_reducible refine t_test ?_
  | with_reducible refine t_B ?_
  | with_reducible refine t_and ?_
  | with_reducible refine t_or ?_
  | with_reducible refine t_not ?_
  | with_reducible refine t_yes ?_
  | with_reducible refine e_not ?_
  | with_reducible refine e_if ?_
  | ((with_reducible refine' e_clocks ?T ?h ?_); (case T => assumption); (case h => exact rfl))
  | ((with_reducible refine' e_links ?T ?h ?_); (case T => assumption); (case h => exact rfl))
  | ((with_reducible refine' e_sources ?T ?h ?_); (case T => assumption); (case h => exact rfl))
  | ((with_reducible refine' e_lenOwn ?h ?l ?_); (case h => exact rfl); (case l => exact rfl))
  | ((with_reducible refine' e_lenScr ?h ?_); (case h => exact rfl))
  | with_reducible refine e_len ?_
  | ((with_reducible refine' e_tupleOwn ?h ?l ?_); (case h => exact rfl); (case l => exact rfl))
  | with_reducible refine e_tuple ?_
  | with_reducible refine e_int1 ?_
  | with_reducible refine s_if ?_
  | with_reducible refine s_next ?_
  | with_reducible refine g_name ?_
  | ((with_reducible refine' Exists.intro _ (And.intro ?e ?_)); (case e => exact rfl))
  | ((with_reducible refine' Exists.intro _ (Exists.intro _ (Exists.intro _ (Exists.intro _ (Exists.intro _ (And.intro ?e ?_)))))); (case e => exact rfl))
  | ((with_reducible refine' Exists.intro _ (Exists.intro _ (And.intro ?a (And.intro ?b (And.intro ?e ?_))))); (case a => exact rfl); (case b => exact rfl); (case e => exact Nat.le_of_ble_eq_true rfl))
  | with_reducible refine ⟨Nat.le_of_ble_eq_true rfl, ?_⟩
  | ((with_reducible refine' ⟨fun _ => ?_, ?x⟩); (case x => (intro h; exact (nomatch (show true = false from h)))))
  | ((with_reducible refine' ⟨?x, fun _ => ?_⟩); (case x => (intro h; exact (nomatch (show false = true from h))))))
local macro_rules | `(tactic| walk_at "wx") => `(tactic| repeat (walk_at "w3"))
local macro_rules | `(tactic| walk_at "ws") => `(tactic| repeat (first | walk_at "w3" | with_reducible refine s_set ?_ | with_reducible refine s_ret ?_))
local macro_rules | `(tactic| walk_at "wt") => `(tactic| ((with_reducible refine e_take ?_); (walk_at "wx"); (refine' ⟨_, _, _, _, ?e, ?h, ?b, ?_⟩); (case e => exact rfl); (case h => exact rfl); (case b => (refine ⟨?_, ?_, ?_, ?_⟩ <;> first | decide | omega))))
section
variable {c : Cn} {γ : List En} {P : PyData → Prop} {tt tu : TT}
/-- and, or, without a fork -/
theorem t_and2 {a b : Bool} {P : Bool → Prop} (ha : wpT c tt γ fun d => d = a) (hb : wpT c tu γ fun d => d = b) (p : P (a && b)) : wpT c (tAnd tt tu) γ P :=
  t_and (wpT_mono ha fun d e => ⟨fun z => wpT_mono hb fun d2 e2 => by subst e e2 z; exact p, fun z => by subst e z; exact p⟩)
theorem two_bi {y : Int} (h0 : 0 ≤ y) (h1 : y < 2) : ∃ k, y = bi k := by
  by_cases h : y = 0
  · exact ⟨false, h⟩
  · exact ⟨true, by show y = 1; omega⟩
theorem datI_int {α : Type} {g : α → PyData} {xs : List α} {x : Int} (d : α) (h0 : 0 ≤ x) (h1 : x < (xs.length : Int)) : datI (xs.map g) x = some (g (xs.getD x.toNat d)) := by
  have e : x = ((x.toNat : Nat) : Int) := (Int.toNat_of_nonneg h0).symm
  rw [e]
  exact datI_getD d (by omega)
theorem set_at {i : Nat} {e e' : En} (h : γ[i]? = some e) : (γ.set i e')[i]? = some e' := List.getElem?_set_self (List.getElem?_eq_some_iff.mp h).1
theorem set_off {i j : Nat} {e e' : En} (hn : j ≠ i) (h : γ[j]? = some e) : (γ.set i e')[j]? = some e := by rw [List.getElem?_set_ne (Ne.symm hn)]; exact h
/-- the device's clocks, by a comprehension -/
theorem n_mine {fi di j : Nat} {f : FrD} {dev : Int} {P : List PyData → Prop} (T : Cls3 c.K c.C) (hf : γ[fi]? = some (.fr f.fr)) (hd : γ[di]? = some (.is (.int dev))) (hj : γ[j]? = some .no) (hfj : fi ≠ j) (hdj : di ≠ j) (ok : FrOk f) (p : P ((mine f.cks dev).map natD)) :
    wpN c (tLc (iRng1 (tCons (tCB (rLen3 c.K) (tCons (tFld c.K (tVar fi) "clocks") tNil)) tNil)) (gName j) (tTest (tOp (rEqD c.K) (tOp (rIx c.K) (tOp (rIx c.K) (tFld c.K (tVar fi) "clocks") (tVar j)) (tC (.int 1))) (tVar di))) (tVar j) [j]) γ P := by
  refine n_lc (js := [j]) (fun v hv => ?_) (fun v h => h) (i_range1 (d_cons (e_len (e_clocks T hf ?_))))
  · have : v = j := by simpa using hv
    subst this
    exact hj
  have hl : f.fr.clocks.length = f.cks.length := List.length_map _
  have hnc := ok.ncks
  refine ⟨_, rfl, d_nil ⟨_, rfl, by rw [hl]; omega, by rw [hl]; omega, ?_⟩⟩
  rw [hl]
  refine ⟨by omega, fun i acc => acc = (mineN f.cks dev i).map natD, rfl, ?_, ?_⟩
  · rintro i acc hi rfl hal
    have hi' : i < f.cks.length := by omega
    have e0 : (0 : Int) + (i : Int) = (i : Int) := by omega
    show wpG c _ [j] _ (PyData.int (0 + (i : Int))) _
    rw [e0]
    refine g_name ?_
    have hck : datI f.fr.clocks (i : Int) = some (f.cks.getD i default).d := datI_getD default hi'
    refine t_test (e_op (e_op (e_op (e_clocks T (set_off hfj hf) (e_var (set_at hj) (x_ixL rfl rfl hck (e_int (x_ixT rfl rfl rfl (e_var (set_off hdj hd) (x_eqI rfl rfl ⟨_, rfl, fun h => ?_, fun h => ?_⟩))))))))))
    · refine e_var (set_at hj) ?_
      show _ = List.map natD (mineN f.cks dev (i + 1))
      rw [mineN_succ, show mineP f.cks dev i = true from h, if_pos rfl, List.map_append]
      rfl
    · show _ = List.map natD (mineN f.cks dev (i + 1))
      rw [mineN_succ, show mineP f.cks dev i = false from h, if_neg Bool.false_ne_true, List.append_nil]
  · rintro acc rfl _
    exact p
/-- the sources at the device: places that are there -/
theorem n_near {fi di j : Nat} {f : FrD} {dev : Int} {P : List PyData → Prop} (T : Cls3 c.K c.C) (hf : γ[fi]? = some (.fr f.fr)) (hd : γ[di]? = some (.is (.int dev))) (hj : γ[j]? = some .no) (hfj : fi ≠ j) (hdj : di ≠ j) (ok : FrOk f)
    (p : ∀ l : List Nat, (∀ s ∈ l, s < f.srs.length) → l.length ≤ 100 → P (l.map natD)) :
    wpN c (tLc (iRng1 (tCons (tCB (rLen3 c.K) (tCons (tFld c.K (tVar fi) "sources") tNil)) tNil)) (gName j) (tTest (tOp (rEqD c.K) (tOp (rIx c.K) (tOp (rIx c.K) (tFld c.K (tVar fi) "sources") (tVar j)) (tC (.int 1))) (tVar di))) (tVar j) [j]) γ P := by
  refine n_lc (js := [j]) (fun v hv => ?_) (fun v h => h) (i_range1 (d_cons (e_len (e_sources T hf ?_))))
  · have : v = j := by simpa using hv
    subst this
    exact hj
  have hl : f.fr.sources.length = f.srs.length := List.length_map _
  have hnc := ok.nsrs
  refine ⟨_, rfl, d_nil ⟨_, rfl, by rw [hl]; omega, by rw [hl]; omega, ?_⟩⟩
  rw [hl]
  refine ⟨by omega, fun i acc => ∃ l : List Nat, (∀ s ∈ l, s < f.srs.length) ∧ acc = l.map natD, ⟨[], fun _ z => (nomatch z), rfl⟩, ?_, ?_⟩
  · rintro i acc hi ⟨l, hl1, rfl⟩ hal
    have hi' : i < f.srs.length := by omega
    have e0 : (0 : Int) + (i : Int) = (i : Int) := by omega
    show wpG c _ [j] _ (PyData.int (0 + (i : Int))) _
    rw [e0]
    refine g_name ?_
    have hck : datI f.fr.sources (i : Int) = some (f.srs.getD i default).d := datI_getD default hi'
    refine t_test (e_op (e_op (e_op (e_sources T (set_off hfj hf) (e_var (set_at hj) (x_ixL rfl rfl hck (e_int (x_ixT rfl rfl rfl (e_var (set_off hdj hd) (x_eqI rfl rfl ⟨_, rfl, fun h => ?_, fun h => ?_⟩))))))))))
    · refine e_var (set_at hj) ⟨l ++ [i], fun s hs => ?_, ?_⟩
      · rcases List.mem_append.mp hs with z | z
        · exact hl1 s z
        · have : s = i := by simpa using z
          omega
      · rw [List.map_append]
        rfl
    · exact ⟨l, hl1, rfl⟩
  · rintro acc ⟨l, hl1, rfl⟩ hal
    rw [List.length_map] at hal
    exact p l hl1 (by omega)
end
theorem wp_deed (c : Cn) (T : Cls3 c.K c.C) (p : Addr) (a : Int) (f : FrD) (dev : Int) (q : Addr) (words : List Nat) (hp : FrOk f ∧ (0 ≤ a ∧ a < 18) ∧ words.length ≤ 100) :
    wpS c (t_deed c.K c.C) ([.rows p, .is (.int a), .fr f.fr, .is (.int dev), .par false q (words.map natD)] ++ List.replicate 4 .no) (fun _ => False) fun r γ' => γ'[0]? = some (.rows p) ∧ ∃ d : Dd, DdOk f dev words d ∧ r = .d d.d := by
  obtain ⟨ok, ⟨a0, a1⟩, hw⟩ := hp
  have hml := mine_len f.cks dev
  have hnc := ok.ncks
  unfold t_deed
  refine s_nrm (γ' := [.rows p, .is (.int a), .fr f.fr, .is (.int dev), .par false q (words.map natD), .no, .no, .no, .no]) rfl ?_
  refine s_seq (s_set ?_)
  walk_at "wt"
  intro w w0 w1
  refine s_seq (s_set (e_new (n_mine T rfl rfl rfl (by decide) (by decide) ok ?_)))
  refine s_seq (s_set (e_new (n_near T rfl rfl rfl (by decide) (by decide) ok fun near hn hnl => ?_)))
  refine s_nrm (γ' := [.rows p, .is (.int a), .fr f.fr, .is (.int dev), .par false q (words.map natD), .is (.int w), .is (.list ((mine f.cks dev).map natD)), .is (.list (near.map natD)), .no]) rfl ?_
  have triv : ∀ d : Dd, (∀ ks, d ≠ .anew ks) → (∀ s k v, d ≠ .mark s k v) → (∀ n, d ≠ .hear n) → DdOk f dev words d := fun d h1 h2 h3 => ⟨fun ks e => absurd e (h1 ks), fun s k v e => absurd e (h2 s k v), fun n e => absurd e (h3 n)⟩
  -- kind
  refine s_seq (s_if (t_and2 (a := decide (w = 0)) (b := decide (0 < ((mine f.cks dev).length : Int))) ?_ ?_ ⟨fun h => ?_, fun _ => s_next ?_⟩))
  · walk_at "wx"
    rfl
  · walk_at "wx"
    refine x_gt rfl rfl ?_
    walk_at "wx"
    rw [List.length_map]
  · have hm0 : 0 < ((mine f.cks dev).length : Int) := of_decide_eq_true (Bool.and_eq_true_iff.mp h).2
    refine s_ret ?_
    walk_at "wx"
    refine e_take ?_
    walk_at "wx"
    refine ⟨0, p, a, _, rfl, rfl, ⟨a0, a1, by rw [List.length_map]; exact hm0, by rw [List.length_map]; omega⟩, fun x x0 x1 => ?_⟩
    rw [List.length_map] at x1
    refine x_ixL rfl rfl (datI_int 0 x0 x1) ?_
    walk_at "wx"
    walk_at "wt"
    intro y y0 y1
    obtain ⟨k, rfl⟩ := two_bi y0 y1
    walk_at "wx"
    exact ⟨rfl, .kind _ k, triv _ (fun _ z => (nomatch z)) (fun _ _ _ z => (nomatch z)) (fun _ z => (nomatch z)), rfl⟩
  -- anew
  refine s_seq (s_if (t_test ?_))
  walk_at "wx"
  refine ⟨fun _ => ?_, fun _ => s_next ?_⟩
  · refine s_ret ?_
    walk_at "wx"
    refine e_new (n_lc (js := [8]) ?_ (fun v h => h) (i_list ?_))
    · intro v hv
      have : v = 8 := by simpa using hv
      subst this
      rfl
    walk_at "wx"
    rw [List.length_map]
    refine ⟨by omega, fun i acc => ∃ ks : List Bool, ks.length = i ∧ acc = ks.map fun k => PyData.int (bi k), ⟨[], rfl, rfl⟩, ?_, ?_⟩
    · rintro i acc hi ⟨ks, hk, rfl⟩ _
      refine g_name (t_yes ⟨fun _ => ?_, fun h => (nomatch h)⟩)
      walk_at "wt"
      intro y y0 y1
      obtain ⟨k, rfl⟩ := two_bi y0 y1
      refine ⟨ks ++ [k], by rw [List.length_append, hk]; rfl, ?_⟩
      rw [List.map_append]
      rfl
    · rintro acc ⟨ks, hk, rfl⟩ _
      walk_at "wx"
      exact ⟨rfl, .anew ks, ⟨fun ks' e => by cases e; exact hk, fun _ _ _ e => (nomatch e), fun _ e => (nomatch e)⟩, rfl⟩
  -- mark
  refine s_seq (s_if (t_and2 (a := decide (w < 4)) (b := decide (0 < (near.length : Int))) ?_ ?_ ⟨fun h => ?_, fun _ => s_next ?_⟩))
  · walk_at "wx"
    refine x_lt rfl rfl ?_
    walk_at "wx"
    rfl
  · walk_at "wx"
    refine x_gt rfl rfl ?_
    walk_at "wx"
    rw [List.length_map]
  · have hm0 : 0 < (near.length : Int) := of_decide_eq_true (Bool.and_eq_true_iff.mp h).2
    refine s_ret ?_
    walk_at "wx"
    refine e_take ?_
    walk_at "wx"
    refine ⟨0, p, a, _, rfl, rfl, ⟨a0, a1, by rw [List.length_map]; exact hm0, by rw [List.length_map]; omega⟩, fun x x0 x1 => ?_⟩
    rw [List.length_map] at x1
    refine x_ixL rfl rfl (datI_int 0 x0 x1) ?_
    walk_at "wx"
    walk_at "wt"
    intro y y0 y1
    obtain ⟨k, rfl⟩ := two_bi y0 y1
    walk_at "wx"
    walk_at "wt"
    intro z z0 z1
    walk_at "wx"
    have hs : near.getD x.toNat 0 < f.srs.length := hn _ (by
      have hlt : x.toNat < near.length := by omega
      rw [List.getD_eq_getElem?_getD, List.getElem?_eq_getElem hlt]
      exact List.getElem_mem hlt)
    exact ⟨rfl, .mark _ k (z - 20), ⟨fun _ e => (nomatch e), fun s' k' v' e => by cases e; exact hs, fun _ e => (nomatch e)⟩, rfl⟩
  -- send
  refine s_seq (s_if (t_and2 (a := decide (w = 4)) (b := decide (dev = 0)) ?_ ?_ ⟨fun h => ?_, fun _ => s_next ?_⟩))
  · walk_at "wx"
    rfl
  · walk_at "wx"
    rfl
  · refine s_ret ?_
    walk_at "wx"
    walk_at "wt"
    intro y y0 y1
    obtain ⟨k, rfl⟩ := two_bi y0 y1
    walk_at "wx"
    exact ⟨rfl, .send k, triv _ (fun _ z => (nomatch z)) (fun _ _ _ z => (nomatch z)) (fun _ z => (nomatch z)), rfl⟩
  -- tell
  refine s_seq (s_if (t_and2 (a := decide (w = 5)) (b := decide (dev = 0)) ?_ ?_ ⟨fun h => ?_, fun _ => s_next ?_⟩))
  · walk_at "wx"
    rfl
  · walk_at "wx"
    rfl
  · refine s_ret ?_
    walk_at "wx"
    exact ⟨rfl, .tell, triv _ (fun _ z => (nomatch z)) (fun _ _ _ z => (nomatch z)) (fun _ z => (nomatch z)), rfl⟩
  -- hear
  refine s_seq (s_if (t_and2 (a := decide (3 < w)) (b := decide (dev = 1) && decide (0 < (words.length : Int))) ?_ (t_and2 (a := decide (dev = 1)) (b := decide (0 < (words.length : Int))) ?_ ?_ rfl) ⟨fun h => ?_, fun _ => s_next ?_⟩))
  · walk_at "wx"
    refine x_gt rfl rfl ?_
    walk_at "wx"
    rfl
  · walk_at "wx"
    rfl
  · walk_at "wx"
    refine x_gt rfl rfl ?_
    walk_at "wx"
    rw [List.length_map]
  · have h2 := (Bool.and_eq_true_iff.mp h).2
    have hd1 : dev = 1 := of_decide_eq_true (Bool.and_eq_true_iff.mp h2).1
    have hm0 : 0 < (words.length : Int) := of_decide_eq_true (Bool.and_eq_true_iff.mp h2).2
    refine s_ret ?_
    walk_at "wx"
    refine e_take ?_
    walk_at "wx"
    refine ⟨0, p, a, _, rfl, rfl, ⟨a0, a1, by rw [List.length_map]; exact hm0, by rw [List.length_map]; omega⟩, fun x x0 x1 => ?_⟩
    rw [List.length_map] at x1
    refine ⟨x, _, rfl, datI_int 0 x0 x1, ?_⟩
    walk_at "wx"
    have hs : words.getD x.toNat 0 ∈ words := by
      have hlt : x.toNat < words.length := by omega
      rw [List.getD_eq_getElem?_getD, List.getElem?_eq_getElem hlt]
      exact List.getElem_mem hlt
    exact ⟨rfl, .hear _, ⟨fun _ e => (nomatch e), fun _ _ _ e => (nomatch e), fun n e => by cases e; exact ⟨hd1, hs⟩⟩, rfl⟩
  -- commit
  refine s_seq (s_if (t_test ?_))
  walk_at "wx"
  refine ⟨fun _ => ?_, fun _ => s_next ?_⟩
  · refine s_ret ?_
    walk_at "wx"
    walk_at "wt"
    intro y y0 y1
    walk_at "wx"
    exact ⟨rfl, .commit y, triv _ (fun _ z => (nomatch z)) (fun _ _ _ z => (nomatch z)) (fun _ z => (nomatch z)), rfl⟩
  refine s_ret ?_
  walk_at "wx"
  exact ⟨rfl, .note, triv _ (fun _ z => (nomatch z)) (fun _ _ _ z => (nomatch z)) (fun _ z => (nomatch z)), rfl⟩
end W3

/-! ## LayS12 -/
namespace W3
open PySem L2
/-- one step: the reading's head tells the rule; what it asks of data is shown by computing -/
local macro_rules | `(tactic| walk_at "w3") => `(tactic| first
  | with_reducible refine s_seq ?_
  | ((with_reducible refine' e_var ?h ?_); (case h => exact rfl))
  | with_reducible refine e_int ?_
  | with_reducible refine e_str ?_
  | with_reducible refine e_non ?_
  | with_reducible refine e_bl ?_
  | with_reducible refine d_nil ?_
  | with_reducible refine d_cons ?_
  | with_reducible refine a_nil ?_
  | ((with_reducible refine' a_f ?h ?_); (case h => exact rfl))
  | ((with_reducible refine' a_m ?h ?m ?_); (case h => exact rfl); (case m => exact rfl))
  | with_reducible refine a_d ?_
  | with_reducible refine e_tup ?_
  | ((with_reducible refine' e_neg ?_))
  | with_reducible refine e_new (n_lst ?_)
  | with_reducible refine e_new (n_cat ?_)
  | with_reducible refine e_new (k_within ?_)
  | with_reducible refine k_within ?_
  | with_reducible refine n_lst ?_
  | with_reducible refine n_cat ?_
  | ((with_reducible refine' e_ixRows ?h ?_); (case h => exact rfl))
  | ((with_reducible refine' e_ixOwn ?h ?l ?_); (case h => exact rfl); (case l => exact rfl))
  | ((with_reducible refine' e_ixScr ?h ?_); (case h => exact rfl))
  | with_reducible refine e_op ?_
  | ((with_reducible refine' x_add ?a ?b ?_); (case a => exact rfl); (case b => exact rfl))
  | ((with_reducible refine' x_sub ?a ?b ?_); (case a => exact rfl); (case b => exact rfl))
  | ((with_reducible refine' x_ixT ?a ?b ?e ?_); (case a => exact rfl); (case b => exact rfl); (case e => exact rfl))
  | ((with_reducible refine' x_ixL ?a ?b ?e ?_); (case a => exact rfl); (case b => exact rfl); (case e => exact rfl))
  | ((with_reducible refine' x_ixT ?a ?b ?e ?_); (case a => exact rfl); (case b => exact rfl); (case e => assumption))
  | ((with_reducible refine' x_ixL ?a ?b ?e ?_); (case a => exact rfl); (case b => exact rfl); (case e => assumption))
  | ((with_reducible refine' x_eqI ?a ?b ?_); (case a => exact rfl); (case b => exact rfl))
  | ((with_reducible refine' x_neI ?a ?b ?_); (case a => exact rfl); (case b => exact rfl))
  | ((with_reducible refine' x_eqS (b := true) ?a ?b ?e ?f ?g ?_); (case a => exact rfl); (case b => exact rfl); (case e => decide +kernel); (case f => decide +kernel); (case g => decide +kernel))
  | ((with_reducible refine' x_eqS (b := false) ?a ?b ?e ?f ?g ?_); (case a => exact rfl); (case b => exact rfl); (case e => decide +kernel); (case f => decide +kernel); (case g => decide +kernel))
  | ((with_reducible refine' x_neS (b := true) ?a ?b ?e ?f ?g ?_); (case a => exact rfl); (case b => exact rfl); (case e => decide +kernel); (case f => decide +kernel); (case g => decide +kernel))
  | ((with_reducible refine' x_neS (b := false) ?a ?b ?e ?f ?g ?_); (case a => exact rfl); (case b => exact rfl); (case e => decide +kernel); (case f => decide +kernel); (case g => decide +kernel))
  | ((with_reducible refine' x_notN (b := true) ?a ?b ?_); (case a => exact rfl); (case b => exact rfl))
  | ((with_reducible refine' x_notN (b := false) ?a ?b ?_); (case a => exact rfl); (case b => exact rfl))
  | with_reducible refine t_test ?_
  | with_reducible refine t_B ?_
  | with_reducible refine t_and ?_
  | with_reducible refine t_or ?_
  | with_reducible refine t_not ?_
  | with_reducible refine t_yes ?_
  | with_reducible refine e_not ?_
  | with_reducible refine e_if ?_
  | ((with_reducible refine' e_clocks ?T ?h ?_); (case T => assumption); (case h => exact rfl))
  | ((with_reducible refine' e_links ?T ?h ?_); (case T => assumption); (case h => exact rfl))
  | ((with_reducible refine' e_sources ?T ?h ?_); (case T => assumption); (case h => exact rfl))
  | ((with_reducible refine' e_lenOwn ?h ?l ?_); (case h => exact rfl); (case l => exact rfl))
  | ((with_reducible refine' e_lenScr ?h ?_); (case h => exact rfl))
  | with_reducible refine e_len ?_
  | ((with_reducible refine' e_tupleOwn ?h ?l ?_); (case h => exact rfl); (case l => exact rfl))
  | with_reducible refine e_tuple ?_
  | with_reducible refine e_int1 ?_
  | with_reducible refine s_if ?_
  | with_reducible refine s_next ?_
  | with_reducible refine g_name ?_
  | ((with_reducible refine' Exists.intro _ (And.intro ?e ?_)); (case e => exact rfl))
  | ((with_reducible refine' Exists.intro _ (Exists.intro _ (Exists.intro _ (Exists.intro _ (Exists.intro _ (And.intro ?e ?_)))))); (case e => exact rfl))
  | ((with_reducible refine' Exists.intro _ (Exists.intro _ (And.intro ?a (And.intro ?b (And.intro ?e ?_))))); (case a => exact rfl); (case b => exact rfl); (case e => exact Nat.le_of_ble_eq_true rfl))
  | with_reducible refine ⟨Nat.le_of_ble_eq_true rfl, ?_⟩
  | ((with_reducible refine' ⟨fun _ => ?_, ?x⟩); (case x => (intro h; exact (nomatch (show true = false from h)))))
  | ((with_reducible refine' ⟨?x, fun _ => ?_⟩); (case x => (intro h; exact (nomatch (show false = true from h))))))
local macro_rules | `(tactic| walk_at "wx") => `(tactic| repeat (walk_at "w3"))
local macro_rules | `(tactic| walk_at "ws") => `(tactic| repeat (first | walk_at "w3" | with_reducible refine s_set ?_ | with_reducible refine s_ret ?_))
local macro_rules | `(tactic| walk_at "wt") => `(tactic| ((with_reducible refine e_take ?_); (walk_at "wx"); (refine' ⟨_, _, _, _, ?e, ?h, ?b, ?_⟩); (case e => exact rfl); (case h => exact rfl); (case b => (refine ⟨?_, ?_, ?_, ?_⟩ <;> first | decide | omega))))
theorem lay_dd (d : Dd) : d.d.canLay0 = true := by
  have ht := tag_ok d
  have hk : ∀ ks : List Bool, PyData.canLayAll0 (ks.map fun k => PyData.int (bi k)) = true := lay_all fun _ => by simp [PyData.canLay0]
  rw [dd_eq]
  cases d <;> simp [restD, PyData.canLay0, PyData.canLayAll0, hk] <;> exact ht
theorem dep_dd (d : Dd) : d.d.depth ≤ 2 := by
  have hk : ∀ ks : List Bool, PyData.depthAll (ks.map fun k => PyData.int (bi k)) ≤ 0 := dep_all fun _ => by simp [PyData.depth]
  rw [dd_eq]
  cases d <;> simp [restD, PyData.depth, PyData.depthAll]
  case anew ks => have := hk ks; omega
theorem sh_dd (d : Dd) : SeqAt.shaped d.d = true := shaped_of (lay_dd d) (by have := dep_dd d; omega)
/-- the events of a device so far -/
structure EvsI (f : FrD) (dev : Int) (W0 : List Nat) (k : Nat) (evs : List Ev) (words : List Nat) (sh : List Int) : Prop where
  len : evs.length = k + 1
  sh : sh.length = (mine f.cks dev).length
  ok : ∀ n : Nat, n + 1 < evs.length → EvW f dev W0 (evs.getD (n + 1) default)
  one : dev ≠ 0 → words = W0
  new : ∀ w ∈ words, w ∈ W0 ∨ w < evs.length
  wl : words.length ≤ W0.length + evs.length
def evN (f : FrD) (dev : Int) (p q : Addr) (evs : List Ev) (words : List Nat) (sh : List Int) (gs : List En) : List En :=
  .rows p :: .fr f.fr :: .is (.int dev) :: .par true q (words.map natD) :: .own (evs.map Ev.d) :: .is (.list ((mine f.cks dev).map natD)) :: .is (.list (sh.map .int)) :: gs
theorem wp_events (c : Cn) (T : Cls3 c.K c.C) (p : Addr) (f : FrD) (dev : Int) (q : Addr) (W0 : List Nat) (hp : FrOk f ∧ (dev = 0 ∨ dev = 1) ∧ W0.length ≤ 50) :
    wpS c (t_events c.K c.C) ([.rows p, .fr f.fr, .is (.int dev), .par true q (W0.map natD)] ++ List.replicate 9 .no) (fun _ => False)
      fun r γ' => γ'[0]? = some (.rows p) ∧ ∃ (evs : List Ev) (words' : List Nat), γ'[3]? = some (.par true q (words'.map natD)) ∧ r = .l (evs.map Ev.d) ∧ EvsOk ⟨p, f, dev, q, W0⟩ evs words' := by
  obtain ⟨ok, hdev, hw0⟩ := hp
  have hml := mine_len f.cks dev
  have hnc := ok.ncks
  unfold t_events
  refine s_nrm (γ' := [.rows p, .fr f.fr, .is (.int dev), .par true q (W0.map natD), .no, .no, .no, .no, .no, .no, .no, .no, .no]) rfl ?_
  refine s_seq (s_setN ?_)
  walk_at "wx"
  refine s_set (e_new (n_mine T rfl rfl rfl (by decide) (by decide) ok ?_))
  refine s_seq (s_set ?_)
  refine e_new (n_lc (js := [11]) ?_ (fun v h => h) (i_list ?_))
  · intro v hv
    have : v = 11 := by simpa using hv
    subst this
    rfl
  walk_at "wx"
  rw [List.length_map]
  refine ⟨by omega, fun i acc => ∃ l : List Int, l.length = i ∧ acc = l.map .int, ⟨[], rfl, rfl⟩, ?_, ?_⟩
  · rintro i acc hi ⟨l, hl, rfl⟩ _
    refine g_name (t_yes ⟨fun _ => ?_, fun h => (nomatch h)⟩)
    walk_at "wx"
    walk_at "wt"
    intro y y0 y1
    walk_at "wx"
    refine ⟨l ++ [y - 4], by rw [List.length_append, hl]; rfl, ?_⟩
    rw [List.map_append]
    rfl
  rintro acc ⟨l0, hl0, rfl⟩ _
  refine s_nrm (γ' := evN f dev p q [⟨false, [], [], .note, 1⟩] W0 l0 [.no, .no, .no, .no, .no, .no]) rfl ?_
  refine s_seq (s_for (js := [7]) (i_range2 ?_))
  walk_at "wx"
  walk_at "wt"
  intro m m0 m1
  walk_at "wx"
  refine ⟨1, 1 + m, rfl, by omega, ?_⟩
  have em : (1 + m - 1).toNat = m.toNat := by omega
  rw [em]
  have hm6 : m.toNat ≤ 6 := by omega
  refine ⟨fun k γ' => ∃ evs words sh g7 g8 g9 g10, γ' = evN f dev p q evs words sh [g7, g8, g9, g10, .no, .no] ∧ EvsI f dev W0 k evs words sh, ?_, ?_, ?_⟩
  · exact ⟨[⟨false, [], [], .note, 1⟩], W0, l0, .no, .no, .no, .no, rfl, ⟨rfl, hl0, fun n h => absurd h (by show ¬ n + 1 < 1; omega), fun _ => rfl, fun w hw => .inl hw, by omega⟩⟩
  · rintro k γ' hk ⟨evs, words, sh, g7, g8, g9, g10, rfl, I⟩
    have hk6 : k < 6 := by omega
    have hwl : words.length ≤ 57 := by have := I.wl; have := I.len; omega
    show wpG c _ [7] _ (PyData.int (1 + (k : Int))) _
    unfold evN
    refine g_name ?_
    -- at = 4 + 6 * device + n
    walk_at "wx"
    refine s_set ?_
    walk_at "wx"
    refine x_mul rfl rfl (.inl (by decide)) ?_
    walk_at "wx"
    have at_ : 0 ≤ 4 + 6 * dev + (1 + (k : Int)) ∧ 4 + 6 * dev + (1 + (k : Int)) < 18 := by omega
    have hn : (1 + (k : Int)) = ((k + 1 : Nat) : Int) := by omega
    generalize 4 + 6 * dev + (1 + (k : Int)) = at' at at_ ⊢
    obtain ⟨at0, at1⟩ := at_
    -- shows
    refine s_set (e_new (n_lc (js := [12]) ?_ (fun v h => h) (i_list ?_)))
    · intro v hv
      have : v = 12 := by simpa using hv
      subst this
      rfl
    walk_at "wx"
    rw [List.length_map]
    have hsl := I.sh
    refine ⟨by omega, fun i acc => ∃ l : List Int, l.length = i ∧ acc = l.map .int, ⟨[], rfl, rfl⟩, ?_, ?_⟩
    · rintro i acc hi ⟨l, hl, rfl⟩ _
      have ey : (sh.map PyData.int).getD i .none = .int (sh.getD i 0) := by
        rw [List.getD_eq_getElem?_getD, List.getElem?_map, getD_of 0 hi]
        rfl
      show wpG c _ [12] _ ((sh.map PyData.int).getD i .none) _
      rw [ey]
      refine g_name (t_yes ⟨fun _ => ?_, fun h => (nomatch h)⟩)
      walk_at "wx"
      walk_at "wt"
      intro y y0 y1
      walk_at "wx"
      refine ⟨l ++ [sh.getD i 0 + y - 1], by rw [List.length_append, hl]; rfl, ?_⟩
      rw [List.map_append]
      rfl
    rintro acc ⟨sh', hsh', rfl⟩ _
    -- the deed
    refine s_seq (s_set (e_deed (f := f) ?_))
    walk_at "wx"
    refine ⟨0, 3, p, q, true, at', dev, words, rfl, rfl, rfl, ⟨ok, ⟨at0, at1⟩, by omega⟩, fun d hd => ?_⟩
    -- after
    refine s_seq (s_setN (n_list (e_var rfl ⟨_, rfl, ?_⟩)))
    refine s_nrm (γ' := [.rows p, .fr f.fr, .is (.int dev), .par true q (words.map natD), .own (evs.map Ev.d), .is (.list ((mine f.cks dev).map natD)), .is (.list (sh'.map .int)), .is (.int (1 + (k : Int))), .is (.int at'), .is d.d, .own (sh'.map .int), .no, .no]) rfl ?_
    refine s_seq (wpS_mono (N := fun γ' => ∃ af : List Int, af.length = sh'.length ∧ γ' = [.rows p, .fr f.fr, .is (.int dev), .par true q (words.map natD), .own (evs.map Ev.d), .is (.list ((mine f.cks dev).map natD)), .is (.list (sh'.map .int)), .is (.int (1 + (k : Int))), .is (.int at'), .is d.d, .own (af.map .int), .no, .no]) ?_ ?_ (fun _ _ h => h))
    · have skip : ∃ af : List Int, af.length = sh'.length ∧ ([.rows p, .fr f.fr, .is (.int dev), .par true q (words.map natD), .own (evs.map Ev.d), .is (.list ((mine f.cks dev).map natD)), .is (.list (sh'.map .int)), .is (.int (1 + (k : Int))), .is (.int at'), .is d.d, .own (sh'.map .int), .no, .no] : List En) = [.rows p, .fr f.fr, .is (.int dev), .par true q (words.map natD), .own (evs.map Ev.d), .is (.list ((mine f.cks dev).map natD)), .is (.list (sh'.map .int)), .is (.int (1 + (k : Int))), .is (.int at'), .is d.d, .own (af.map .int), .no, .no] := ⟨sh', rfl, rfl⟩
      refine s_if (t_and (t_test ?_))
      walk_at "wx"
      refine r_eq (sh_dd d) (sh_dd .note) ?_
      refine ⟨_, rfl, fun _ => ?_, fun _ => ⟨fun h => (nomatch h), fun _ => s_next skip⟩⟩
      refine t_and (t_test ?_)
      walk_at "wx"
      refine x_gt rfl rfl ?_
      refine ⟨_, rfl, fun hpos => ?_, fun _ => ⟨fun h => (nomatch h), fun _ => s_next skip⟩⟩
      have hpos' : 0 < ((sh'.map PyData.int).length : Int) := of_decide_eq_true hpos
      rw [List.length_map] at hpos'
      refine t_test ?_
      walk_at "wx"
      walk_at "wt"
      intro y y0 y1
      walk_at "wx"
      refine ⟨fun _ => ?_, fun _ => s_next skip⟩
      refine s_item rfl ?_
      walk_at "wx"
      walk_at "wt"
      intro z z0 z1
      walk_at "wx"
      refine e_take ?_
      walk_at "wx"
      refine ⟨0, p, at', _, rfl, rfl, ⟨at0, at1, by rw [List.length_map]; exact hpos', by rw [List.length_map]; omega⟩, fun x x0 x1 => ?_⟩
      refine ⟨x, rfl, x0, x1, ⟨sh'.set x.toNat (z - 10), List.length_set, ?_⟩⟩
      rw [List.map_set]
      rfl
    rintro γ' ⟨af, haf, rfl⟩
    refine s_seq (wpS_mono (N := fun γ' => ∃ words' : List Nat, (words' = words ∨ (dev = 0 ∧ words' = words ++ [k + 1])) ∧ γ' = [.rows p, .fr f.fr, .is (.int dev), .par true q (words'.map natD), .own (evs.map Ev.d), .is (.list ((mine f.cks dev).map natD)), .is (.list (sh'.map .int)), .is (.int (1 + (k : Int))), .is (.int at'), .is d.d, .own (af.map .int), .no, .no]) ?_ ?_ (fun _ _ h => h))
    · have skip : ∃ words' : List Nat, (words' = words ∨ (dev = 0 ∧ words' = words ++ [k + 1])) ∧ ([.rows p, .fr f.fr, .is (.int dev), .par true q (words.map natD), .own (evs.map Ev.d), .is (.list ((mine f.cks dev).map natD)), .is (.list (sh'.map .int)), .is (.int (1 + (k : Int))), .is (.int at'), .is d.d, .own (af.map .int), .no, .no] : List En) = [.rows p, .fr f.fr, .is (.int dev), .par true q (words'.map natD), .own (evs.map Ev.d), .is (.list ((mine f.cks dev).map natD)), .is (.list (sh'.map .int)), .is (.int (1 + (k : Int))), .is (.int at'), .is d.d, .own (af.map .int), .no, .no] := ⟨words, .inl rfl, rfl⟩
      refine s_if (t_and (t_test ?_))
      walk_at "wx"
      refine ⟨fun hd0 => ?_, fun _ => ⟨fun h => (nomatch h), fun _ => s_next skip⟩⟩
      have hdv : dev = 0 := of_decide_eq_true hd0
      refine t_test ?_
      walk_at "wx"
      refine x_ixT (dd_eq _) rfl rfl ?_
      walk_at "wx"
      refine r_inS (ss := ["send", "tell"]) ?_
      refine ⟨_, rfl, fun _ => ?_, fun _ => s_next skip⟩
      refine s_appPar rfl (by rw [List.length_map]; omega) ?_
      walk_at "wx"
      refine ⟨words ++ [k + 1], .inr ⟨hdv, rfl⟩, ?_⟩
      rw [List.map_append, hn]
      rfl
    rintro γ' ⟨words', hw', rfl⟩
    refine s_seq (s_app rfl (by rw [List.length_map]; have := I.len; omega) ?_)
    walk_at "wx"
    walk_at "wt"
    intro y y0 y1
    walk_at "wx"
    refine s_frz 10 rfl ?_
    refine s_set ?_
    walk_at "wx"
    have hlen := I.len
    refine ⟨evs ++ [⟨decide (y = 0), sh', af, d, 1 + (1 + (k : Int))⟩], words', af, .is (.int (1 + (k : Int))), .is (.int at'), .is d.d, .is (.list (af.map .int)), ?_, ?_⟩
    rotate_left
    · refine ⟨by rw [List.length_append, hlen]; rfl, by rw [haf, hsh', hsl], fun m hm => ?_, fun h0 => ?_, fun w hw => ?_, ?_⟩
      · rw [List.length_append, hlen] at hm
        have hm' : m + 1 < k + 2 := hm
        by_cases hmk : m + 1 < k + 1
        · have e : (evs ++ [(⟨decide (y = 0), sh', af, d, 1 + (1 + (k : Int))⟩ : Ev)]).getD (m + 1) default = evs.getD (m + 1) default := by
            rw [List.getD_eq_getElem?_getD, List.getD_eq_getElem?_getD, List.getElem?_append_left (by omega)]
          rw [e]
          exact I.ok m (by omega)
        · have hmk' : m + 1 = evs.length := by omega
          have e : (evs ++ [(⟨decide (y = 0), sh', af, d, 1 + (1 + (k : Int))⟩ : Ev)]).getD (m + 1) default = ⟨decide (y = 0), sh', af, d, 1 + (1 + (k : Int))⟩ := by
            rw [List.getD_eq_getElem?_getD, hmk', List.getElem?_append_right (Nat.le_refl _), Nat.sub_self]
            rfl
          rw [e]
          exact ⟨by rw [hsh', hsl], by rw [haf, hsh', hsl], ⟨hd.anew, hd.mark, fun n hh => by
            obtain ⟨z1, z2⟩ := hd.hear n hh
            rw [I.one (by omega)] at z2
            exact ⟨z1, z2⟩⟩⟩
      · rcases hw' with z | ⟨z, _⟩
        · rw [z]; exact I.one h0
        · exact absurd z h0
      · rw [List.length_append, hlen]
        rcases hw' with z | ⟨_, z⟩
        · rw [z] at hw
          rcases I.new w hw with a | a
          · exact .inl a
          · exact .inr (by rw [hlen] at a; exact Nat.lt_of_lt_of_le a (Nat.le_succ _))
        · rw [z] at hw
          rcases List.mem_append.mp hw with a | a
          · rcases I.new w a with a | a
            · exact .inl a
            · exact .inr (by rw [hlen] at a; exact Nat.lt_of_lt_of_le a (Nat.le_succ _))
          · have : w = k + 1 := by simpa using a
            exact .inr (by rw [this]; exact Nat.lt_succ_self _)
      · have hwl2 := I.wl
        rw [List.length_append]
        rcases hw' with z | ⟨_, z⟩
        · rw [z]; show words.length ≤ W0.length + (evs.length + 1); omega
        · rw [z, List.length_append]; show words.length + 1 ≤ W0.length + (evs.length + 1); omega
    · rw [List.map_append]
      exact rfl
  · rintro γ' ⟨evs, words, sh, g7, g8, g9, g10, rfl, I⟩
    refine s_retOwn rfl ⟨rfl, evs, words, rfl, rfl, ?_⟩
    exact ⟨by have := I.len; omega, by have := I.len; omega, I.ok, I.one, I.new, I.wl⟩
end W3

/-! ## LayS13 -/
namespace W3
open PySem L2
/-- one step: the reading's head tells the rule; what it asks of data is shown by computing -/
local macro_rules | `(tactic| walk_at "w3") => `(tactic| first
  | with_reducible refine s_seq ?_
  | ((with_reducible refine' e_var ?h ?_); (case h => exact rfl))
  | with_reducible refine e_int ?_
  | with_reducible refine e_str ?_
  | with_reducible refine e_non ?_
  | with_reducible refine e_bl ?_
  | with_reducible refine d_nil ?_
  | with_reducible refine d_cons ?_
  | with_reducible refine a_nil ?_
  | ((with_reducible refine' a_f ?h ?_); (case h => exact rfl))
  | ((with_reducible refine' a_m ?h ?m ?_); (case h => exact rfl); (case m => exact rfl))
  | with_reducible refine a_d ?_
  | with_reducible refine e_tup ?_
  | ((with_reducible refine' e_neg ?_))
  | with_reducible refine e_new (n_lst ?_)
  | with_reducible refine e_new (n_cat ?_)
  | with_reducible refine e_new (k_within ?_)
  | with_reducible refine k_within ?_
  | with_reducible refine n_lst ?_
  | with_reducible refine n_cat ?_
  | ((with_reducible refine' e_ixRows ?h ?_); (case h => exact rfl))
  | ((with_reducible refine' e_ixOwn ?h ?l ?_); (case h => exact rfl); (case l => exact rfl))
  | ((with_reducible refine' e_ixScr ?h ?_); (case h => exact rfl))
  | with_reducible refine e_op ?_
  | ((with_reducible refine' x_add ?a ?b ?_); (case a => exact rfl); (case b => exact rfl))
  | ((with_reducible refine' x_sub ?a ?b ?_); (case a => exact rfl); (case b => exact rfl))
  | ((with_reducible refine' x_ixT ?a ?b ?e ?_); (case a => exact rfl); (case b => exact rfl); (case e => exact rfl))
  | ((with_reducible refine' x_ixL ?a ?b ?e ?_); (case a => exact rfl); (case b => exact rfl); (case e => exact rfl))
  | ((with_reducible refine' x_ixT ?a ?b ?e ?_); (case a => exact rfl); (case b => exact rfl); (case e => assumption))
  | ((with_reducible refine' x_ixL ?a ?b ?e ?_); (case a => exact rfl); (case b => exact rfl); (case e => assumption))
  | ((with_reducible refine' x_eqI ?a ?b ?_); (case a => exact rfl); (case b => exact rfl))
  | ((with_reducible refine' x_neI ?a ?b ?_); (case a => exact rfl); (case b => exact rfl))
  | ((with_reducible refine' x_eqS (b := true) ?a ?b ?e ?f ?g ?_); (case a => exact rfl); (case b => exact rfl); (case e => decide +kernel); (case f => decide +kernel); (case g => decide +kernel))
  | ((with_reducible refine' x_eqS (b := false) ?a ?b ?e ?f ?g ?_); (case a => exact rfl); (case b => exact rfl); (case e => decide +kernel); (case f => decide +kernel); (case g => decide +kernel))
  | ((with_reducible refine' x_neS (b := true) ?a ?b ?e ?f ?g ?_); (case a => exact rfl); (case b => exact rfl); (case e => decide +kernel); (case f => decide +kernel); (case g => decide +kernel))
  | ((with_reducible refine' x_neS (b := false) ?a ?b ?e ?f ?g ?_); (case a => exact rfl); (case b => exact rfl); (case e => decide +kernel); (case f => decide +kernel); (case g => decide +kernel))
  | ((with_reducible refine' x_notN (b := true) ?a ?b ?_); (case a => exact rfl); (case b => exact rfl))
  | ((with_reducible refine' x_notN (b := false) ?a ?b ?_); (case a => exact rfl); (case b => exact rfl))
  | with_reducible refine t_test ?_
  | with_reducible refine t_B ?_
  | with_reducible refine t_and ?_
  | with_reducible refine t_or ?_
  | with_reducible refine t_not ?_
  | with_reducible refine t_yes ?_
  | with_reducible refine e_not ?_
  | with_reducible refine e_if ?_
  | ((with_reducible refine' e_clocks ?T ?h ?_); (case T => assumption); (case h => exact rfl))
  | ((with_reducible refine' e_links ?T ?h ?_); (case T => assumption); (case h => exact rfl))
  | ((with_reducible refine' e_sources ?T ?h ?_); (case T => assumption); (case h => exact rfl))
  | ((with_reducible refine' e_lenOwn ?h ?l ?_); (case h => exact rfl); (case l => exact rfl))
  | ((with_reducible refine' e_lenScr ?h ?_); (case h => exact rfl))
  | with_reducible refine e_len ?_
  | ((with_reducible refine' e_tupleOwn ?h ?l ?_); (case h => exact rfl); (case l => exact rfl))
  | with_reducible refine e_tuple ?_
  | with_reducible refine e_int1 ?_
  | with_reducible refine s_if ?_
  | with_reducible refine s_next ?_
  | with_reducible refine g_name ?_
  | ((with_reducible refine' Exists.intro _ (And.intro ?e ?_)); (case e => exact rfl))
  | ((with_reducible refine' Exists.intro _ (Exists.intro _ (Exists.intro _ (Exists.intro _ (Exists.intro _ (And.intro ?e ?_)))))); (case e => exact rfl))
  | ((with_reducible refine' Exists.intro _ (Exists.intro _ (And.intro ?a (And.intro ?b (And.intro ?e ?_))))); (case a => exact rfl); (case b => exact rfl); (case e => exact Nat.le_of_ble_eq_true rfl))
  | with_reducible refine ⟨Nat.le_of_ble_eq_true rfl, ?_⟩
  | ((with_reducible refine' ⟨fun _ => ?_, ?x⟩); (case x => (intro h; exact (nomatch (show true = false from h)))))
  | ((with_reducible refine' ⟨?x, fun _ => ?_⟩); (case x => (intro h; exact (nomatch (show false = true from h))))))
local macro_rules | `(tactic| walk_at "wx") => `(tactic| repeat (walk_at "w3"))
local macro_rules | `(tactic| walk_at "ws") => `(tactic| repeat (first | walk_at "w3" | with_reducible refine s_set ?_ | with_reducible refine s_ret ?_))
local macro_rules | `(tactic| walk_at "wt") => `(tactic| ((with_reducible refine e_take ?_); (walk_at "wx"); (refine' ⟨_, _, _, _, ?e, ?h, ?b, ?_⟩); (case e => exact rfl); (case h => exact rfl); (case b => (refine ⟨?_, ?_, ?_, ?_⟩ <;> first | decide | omega))))
def wordOf (v0 : List Ev) : Dd → Dd
  | .hear n => (v0.getD n default).deed
  | _ => .note
theorem sendK_word (v0 : List Ev) (d : Dd) : sendK (wordOf v0 d) = kindOf v0 d := by cases d <;> rfl

def askG (f : FrD) (v0 v1 : List Ev) (dev : Nat) (q : Addr) (due : List Bd) (hands : List Hd) (gs : List En) : List En :=
  .fr f.fr :: .is (viewD v0 v1) :: .is (.int dev) :: .par true q (due.map Bd.d) :: .is (.list (hands.map Hd.d)) :: .is (.list ((mine f.cks dev).map natD)) :: gs
theorem wp_asked (c : Cn) (T : Cls3 c.K c.C) (f : FrD) (v0 v1 : List Ev) (dev : Nat) (q : Addr) (due : List Bd) (hp : ViewOk f v0 v1 ∧ dev < 2 ∧ due.length ≤ 70000) :
    wpS c (t_asked c.K c.C) ([.fr f.fr, .is (viewD v0 v1), .is (.int dev), .par true q (due.map Bd.d)] ++ List.replicate 14 .no) (fun _ => False)
      fun r γ' => r = .d (.bool true) ∧ γ'[3]? = some (.par true q ((due ++ devB f v0 v1 dev).map Bd.d)) := by
  obtain ⟨hv, hdev, hdl⟩ := hp
  obtain ⟨ok, n0, n1, e0, e1⟩ := hv
  have hml := mine_len f.cks dev
  have hnc := ok.ncks
  obtain ⟨evs, hY, hE, hL, hD⟩ : ∃ evs : List Ev, datI [PyData.list (v0.map Ev.d), .list (v1.map Ev.d)] ((dev : Nat) : Int) = some (.list (evs.map Ev.d)) ∧ (∀ n : Nat, n + 1 < evs.length → EvOk f v0 (dev : Int) (evs.getD (n + 1) default)) ∧ evs.length ≤ 100 ∧
      devB f v0 v1 dev = (devSt f v0 (dev : Int) evs (evs.length - 1)).1 := by
    match dev, hdev with
    | 0, _ => exact ⟨v0, rfl, e0, n0, rfl⟩
    | 1, _ => exact ⟨v1, rfl, e1, n1, rfl⟩
  unfold t_asked
  refine s_nrm (γ' := [.fr f.fr, .is (viewD v0 v1), .is (.int dev), .par true q (due.map Bd.d), .no, .no, .no, .no, .no, .no, .no, .no, .no, .no, .no, .no, .no, .no]) rfl ?_
  refine s_seq (s_set (e_new (k_firstHands ?_)))
  walk_at "wx"
  refine ⟨f, (dev : Int), rfl, ok, ?_⟩
  refine s_seq (s_set (e_new (n_mine T rfl rfl rfl (by decide) (by decide) ok ?_)))
  refine s_nrm (γ' := askG f v0 v1 dev q due (hands0 f dev) [.no, .no, .no, .no, .no, .no, .no, .no, .no, .no, .no, .no]) rfl ?_
  -- the hands at the birth
  refine s_seq (s_if (t_test (e_op ?_)))
  unfold askG
  walk_at "wx"
  refine e_new (n_lc (js := [17]) ?_ (fun v h => h) (i_list ?_))
  · intro v hv
    have : v = 17 := by simpa using hv
    subst this
    rfl
  walk_at "wx"
  refine ⟨by rw [List.length_map]; omega, fun i acc => acc = List.replicate i (Hd.d ⟨none, 0, false⟩), rfl, ?_, ?_⟩
  · rintro i acc hi rfl hal
    refine g_name (t_yes ⟨fun _ => ?_, fun h => (nomatch h)⟩)
    walk_at "wx"
    show _ = List.replicate (i + 1) _
    rw [List.replicate_succ']
    rfl
  rintro acc rfl _
  have eh : List.replicate ((mine f.cks dev).map natD).length (Hd.d ⟨none, 0, false⟩) = (hands0 f dev).map Hd.d := by
    unfold hands0
    rw [List.length_map, List.map_map]
    exact List.map_const.symm
  rw [eh]
  refine r_ne (sh_hds _) (sh_hds _) ?_
  rw [eq_hds]
  refine ⟨_, rfl, fun h => (nomatch h), fun _ => s_next ?_⟩
  -- the events
  refine s_seq (s_for (js := [6]) (i_range2 ?_))
  walk_at "wx"
  refine ⟨1, ((evs.map Ev.d).length : Int), rfl, by rw [List.length_map]; omega, ?_⟩
  rw [List.length_map]
  have hn : ((evs.length : Int) - 1).toNat = evs.length - 1 := by omega
  rw [hn]
  refine ⟨fun k γ' => ∃ g0 g1 g2 g3 g4 g5 g6 g7 g8 g9 g10, γ' = askG f v0 v1 dev q (due ++ (devSt f v0 (dev : Int) evs k).1) (devSt f v0 (dev : Int) evs k).2 [g0, g1, g2, g3, g4, g5, g6, g7, g8, g9, g10, .no], ?_, ?_, ?_⟩
  · refine ⟨.no, .no, .no, .no, .no, .no, .no, .no, .no, .no, .no, ?_⟩
    unfold askG devSt
    rw [List.append_nil]
  · rintro k γ' hk ⟨g0, g1, g2, g3, g4, g5, g6, g7, g8, g9, g10, rfl⟩
    have hke : k + 1 < evs.length := by omega
    have ev := hE k hke
    have hkI : (1 + (k : Int)) = ((k + 1 : Nat) : Int) := by omega
    show wpG c _ [6] _ (PyData.int (1 + (k : Int))) _
    rw [hkI]
    have hev : datI (evs.map Ev.d) ((k + 1 : Nat) : Int) = some (evs.getD (k + 1) default).d := datI_getD default hke
    have hst : devSt f v0 (dev : Int) evs (k + 1) = ((devSt f v0 (dev : Int) evs k).1 ++ (eventB f (dev : Int) ((k + 1 : Nat) : Int) (evs.getD (k + 1) default) (devSt f v0 (dev : Int) evs k).2 (kindOf v0 (evs.getD (k + 1) default).deed)).1,
      (eventB f (dev : Int) ((k + 1 : Nat) : Int) (evs.getD (k + 1) default) (devSt f v0 (dev : Int) evs k).2 (kindOf v0 (evs.getD (k + 1) default).deed)).2) := rfl
    have l1 := devSt_len ok v0 (dev : Int) evs k
    have l1' : 700 * k ≤ 700 * 100 := Nat.mul_le_mul_left 700 (by omega)
    have l2 := devSt_hands (f := f) v0 (dev : Int) evs k
    have l3 := eventB_len ok (dev : Int) ((k + 1 : Nat) : Int) (evs.getD (k + 1) default) (devSt f v0 (dev : Int) evs k).2 (kindOf v0 (evs.getD (k + 1) default).deed)
    generalize evs.getD (k + 1) default = e at hev hst ev l3
    dsimp only
    rw [hst]
    generalize devSt f v0 (dev : Int) evs k = S at l1 l2 l3 ⊢
    obtain ⟨Sr, Sh⟩ := S
    dsimp only at l1 l2 l3 ⊢
    generalize hnn : ((k + 1 : Nat) : Int) = n at hev l3 ⊢
    unfold askG
    refine g_name ?_
    walk_at "wx"
    refine s_set ?_
    walk_at "wx"
    refine s_set ?_
    walk_at "wx"
    refine s_set ?_
    refine e_tup (d_cons (e_str (d_nil ⟨by decide, ?_⟩)))
    -- what is heard
    refine s_nrm (γ' := askG f v0 v1 dev q (due ++ Sr) Sh [.is (.int n), .is e.d, .is (hereP dev n).d, .is Dd.note.d, g4, g5, g6, g7, g8, g9, g10, .no]) rfl ?_
    refine s_seq (wpS_mono (N := fun γ' => γ' = askG f v0 v1 dev q (due ++ Sr) Sh [.is (.int n), .is e.d, .is (hereP dev n).d, .is (wordOf v0 e.deed).d, g4, g5, g6, g7, g8, g9, g10, .no]) ?_ ?_ (fun _ _ h => h))
    · obtain ⟨eas, esh, eaf, dd, ekn⟩ := e
      have hh : ∀ m, dd = .hear m → m < v0.length := ev.hear
      unfold askG
      refine s_if (t_test ?_)
      walk_at "wx"
      cases dd with
      | hear m =>
        walk_at "wx"
        refine s_set ?_
        walk_at "wx"
        refine x_ixL rfl rfl (datI_getD default (hh m rfl)) ?_
        walk_at "wx"
        rfl
      | _ =>
        walk_at "wx"
        rfl
    rintro γ' rfl
    have hw := sendK_word v0 e.deed
    generalize wordOf v0 e.deed = wd at hw ⊢
    unfold askG
    refine s_seq (s_set ?_)
    walk_at "wx"
    refine s_setN ?_
    walk_at "wx"
    refine s_nrm (γ' := askG f v0 v1 dev q (due ++ Sr) Sh [.is (.int n), .is e.d, .is (hereP dev n).d, .is wd.d, .is (.list ((rowsU f dev n e Sh 0).map Bd.d)), .own ((latU f dev n e Sh 0).map Hd.d), g6, g7, g8, g9, g10, .no]) rfl ?_
    unfold askG
    refine s_for (js := [12]) (i_range1 ?_)
    walk_at "wx"
    rw [List.length_map]
    refine ⟨by omega, by omega, ?_⟩
    refine ⟨fun i γ' => ∃ g0 g1 g2, γ' = askG f v0 v1 dev q (due ++ Sr) Sh [.is (.int n), .is e.d, .is (hereP dev n).d, .is wd.d, .is (.list ((rowsU f dev n e Sh i).map Bd.d)), .own ((latU f dev n e Sh i).map Hd.d), g0, g1, g2, g9, g10, .no], ⟨_, _, _, rfl⟩, ?_, ?_⟩
    · rintro i γ' hi ⟨g0, g1, g2, rfl⟩
      have hi' : i < (mine f.cks dev).length := hi
      have e0 : (0 : Int) + (i : Int) = (i : Int) := by omega
      show wpG c _ [12] _ (PyData.int (0 + (i : Int))) _
      rw [e0]
      have hmi : (mine f.cks dev)[i]? = some ((mine f.cks dev).getD i 0) := getD_of 0 hi'
      have hci : (mine f.cks dev).getD i 0 < f.cks.length := mine_lt (List.mem_of_getElem? hmi)
      have hmd : datI ((mine f.cks dev).map natD) (i : Int) = some (natD ((mine f.cks dev).getD i 0)) := datI_getD 0 hi'
      have eP : placeB f dev n e Sh i = clockAt (f.cks.getD ((mine f.cks dev).getD i 0) default) dev n e ((mine f.cks dev).getD i 0) i (Sh.getD i default) := rfl
      have hhd : datI (Sh.map Hd.d) (i : Int) = some (Sh.getD i default).d := datI_getD default (by omega)
      have hr := rowsU_succ f dev n e Sh i
      have hl := latU_succ f dev n e Sh i
      have hrl := rowsU_len f dev n e Sh i
      have hll := latU_len f dev n e Sh i
      have hcl := clockAt_len (f.cks.getD ((mine f.cks dev).getD i 0) default) dev n e ((mine f.cks dev).getD i 0) i (Sh.getD i default)
      have han : okAnew e.deed i := fun ks hk => by rw [ev.anew ks hk]; exact hi'
      rw [eP] at hr hl
      unfold askG
      generalize hru : rowsU f dev n e Sh i = ru at hr hrl
      generalize hlu : latU f dev n e Sh i = lu at hl hll
      generalize (mine f.cks dev).getD i 0 = cI at hmd hci hr hl hcl
      generalize Sh.getD i default = hd at hhd hr hl hcl
      refine g_name ?_
      walk_at "wx"
      refine s_asg (js := [13, 14]) (k_clockDue ?_)
      walk_at "wx"
      refine ⟨f, hd, cI, dev, n, e, i, rfl, ⟨ok, hci, by rw [ev.sh]; exact hi', by rw [ev.af]; exact hi', han⟩, ?_⟩
      generalize clockAt (f.cks.getD cI default) dev n e cI i hd = r at hr hl hcl ⊢
      obtain ⟨rb, rp⟩ := r
      dsimp only at hr hl hcl ⊢
      refine g_tup rfl (gs_cons (g_name (gs_cons (g_name (gs_nil ?_)))))
      walk_at "wx"
      refine s_set ?_
      walk_at "wx"
      refine ⟨_, _, rfl, rfl, by rw [List.length_map, List.length_map]; omega, ?_⟩
      walk_at "wx"
      refine s_app rfl (by rw [List.length_map]; omega) ?_
      walk_at "wx"
      refine' ⟨_, _, _, ?h⟩
      case h =>
        rw [hr, hl, List.map_append (l₁ := ru), List.map_append (l₁ := lu)]
        exact rfl
    rintro γ' ⟨g0, g1, g2, rfl⟩
    have h1 := rowsU_len f dev n e Sh (mine f.cks dev).length
    have h2 := deedB_len f (hereP dev n) e.deed (kindOf v0 e.deed)
    have eE : eventB f dev n e Sh (kindOf v0 e.deed) = (rowsU f dev n e Sh (mine f.cks dev).length ++ deedB f (hereP dev n) e.deed (kindOf v0 e.deed), latU f dev n e Sh (mine f.cks dev).length) := rfl
    show wpS c _ (askG f v0 v1 dev q (due ++ Sr) Sh [.is (.int n), .is e.d, .is (hereP dev n).d, .is wd.d, .is (.list ((rowsU f dev n e Sh (mine f.cks dev).length).map Bd.d)), .own ((latU f dev n e Sh (mine f.cks dev).length).map Hd.d), g0, g1, g2, g9, g10, .no]) _ _
    unfold askG
    refine s_frz 11 rfl ?_
    refine s_seq (s_set ?_)
    walk_at "wx"
    refine e_new (k_restDue ?_)
    walk_at "wx"
    refine ⟨f, hereP dev n, e, wd, rfl, ⟨ok, ev.mark⟩, _, _, rfl, rfl, ?_, ?_⟩
    · rw [hw, List.length_map, List.length_map]; omega
    rw [hw, ← List.map_append]
    have l3' : (rowsU f dev n e Sh (mine f.cks dev).length ++ deedB f (hereP dev n) e.deed (kindOf v0 e.deed)).length ≤ 700 := by rw [eE] at l3; exact l3
    rw [eE]
    dsimp only
    refine s_seq (s_asg (js := [15, 4]) (k_eventBounds ?_))
    walk_at "wx"
    refine k_lawKind ?_
    walk_at "wx"
    refine ⟨trivial, ?_⟩
    walk_at "wx"
    refine ⟨f, (dev : Int), n, e, Sh, sendK wd, rfl, ⟨ok, ⟨v0, ev⟩, l2⟩, ?_⟩
    rw [hw, eE]
    dsimp only
    generalize rowsU f dev n e Sh (mine f.cks dev).length ++ deedB f (hereP dev n) e.deed (kindOf v0 e.deed) = E1 at l3' ⊢
    generalize latU f dev n e Sh (mine f.cks dev).length = E2
    refine g_tup rfl (gs_cons (g_name (gs_cons (g_name (gs_nil ?_)))))
    -- asked
    refine s_seq (s_if (t_or (t_test (e_op ?_))))
    walk_at "wx"
    refine r_ne (sh_bds _) (sh_bds _) ?_
    rw [eq_bds]
    refine ⟨_, rfl, fun h => (nomatch h), fun _ => t_test (e_op ?_)⟩
    walk_at "wx"
    refine r_ne (sh_hds _) (sh_hds _) ?_
    rw [eq_hds]
    refine ⟨_, rfl, fun h => (nomatch h), fun _ => s_next ?_⟩
    -- kept
    refine s_nrm (γ' := askG f v0 v1 dev q (due ++ Sr ++ E1.take 0) E2 [.is (.int n), .is e.d, .is (hereP dev n).d, .is wd.d, .is (.list (E1.map Bd.d)), .is (.list (E2.map Hd.d)), g0, g1, g2, .is (.list (E1.map Bd.d)), g10, .no]) (by rw [List.take_zero, List.append_nil]; rfl) ?_
    unfold askG
    refine s_for (js := [16]) (i_list ?_)
    walk_at "wx"
    rw [List.length_map]
    refine ⟨fun i γ' => ∃ g, γ' = askG f v0 v1 dev q (due ++ Sr ++ E1.take i) E2 [.is (.int n), .is e.d, .is (hereP dev n).d, .is wd.d, .is (.list (E1.map Bd.d)), .is (.list (E2.map Hd.d)), g0, g1, g2, .is (.list (E1.map Bd.d)), g, .no], ⟨_, rfl⟩, ?_, ?_⟩
    · rintro i γ' hi ⟨g, rfl⟩
      have hei : E1[i]? = some (E1.getD i default) := getD_of default hi
      have ey : (E1.map Bd.d).getD i .none = (E1.getD i default).d := by
        rw [List.getD_eq_getElem?_getD, List.getElem?_map, hei]
        rfl
      show wpG c _ [16] _ ((E1.map Bd.d).getD i .none) _
      rw [ey]
      have ht : E1.take (i + 1) = E1.take i ++ [E1.getD i default] := by rw [List.take_succ, hei]; rfl
      have htl : (E1.take i).length ≤ E1.length := by rw [List.length_take]; exact Nat.min_le_right _ _
      dsimp only
      rw [ht]
      generalize E1.getD i default = b
      generalize E1.take i = tk at htl ⊢
      unfold askG
      refine g_name ?_
      refine s_appPar rfl (by rw [List.length_map, List.length_append, List.length_append]; omega) ?_
      walk_at "wx"
      refine ⟨.is b.d, ?_⟩
      rw [← List.append_assoc, List.map_append (l₁ := due ++ Sr ++ tk)]
      exact rfl
    rintro γ' ⟨g, rfl⟩
    refine' ⟨_, _, _, _, _, _, _, _, _, _, _, ?h⟩
    case h =>
      rw [List.take_length, List.append_assoc]
      exact rfl
  · rintro γ' ⟨g0, g1, g2, g3, g4, g5, g6, g7, g8, g9, g10, rfl⟩
    refine s_ret (e_bl ⟨rfl, ?_⟩)
    rw [hD]
    rfl
end W3

/-! ## LayS14 -/
namespace W3
open PySem L2
/-! ### the instance -/
theorem seq_i {t u : TS} {D : Ends} {σ : L2.St} {H : Hp} (h : t { D with nx := u D } σ H) : tSeq t u D σ H := h
theorem fld_step {K : Fg} {C : Addr} {σ : L2.St} {G H : Hp} {x dx : Addr} {fs : List (Str × V)} {i : Nat} {v : V} {ds : List PyData} {f : Str} {D : Ends} (T : Cls K C) (na : NoAttr K C f) (hx : σ[0]? = some (some (.ref x))) (hv : σ[i]? = some (some v)) (hd : Da K G v (.list ds))
    (s : Same G H) (gx : G x = none) (hh : H x = some (.ins C dx fs)) (hl : fs.length < 1000)
    (k : ∀ (l : Addr) (G' H' : Hp), Grow (fun b => b = x) G H G' H' → G' x = none → H' x = some (.ins C dx (putF f (.ref l) fs)) → Da K G' (.ref l) (.list ds) → D.nx σ H') : sFld K (tVar 0) (tCB (rList3 K) (tCons (tVar i) tNil)) f D σ H := by
  cases hd with
  | @lst a xs _ h1 h2 =>
    refine ⟨_, hv, a, xs, rfl, .inl (SqL.of (s _ _ h1)), fun l hl' => ?_⟩
    have nxl : x ≠ l := fun z => by
      subst z
      rw [hh] at hl'
      cases hl'
    refine ⟨_, hx, x, C, dx, fs, rfl, by rw [upd_ne nxl]; exact hh, T, na, hl, ?_⟩
    have g1 : Grow (fun b => b = x) G H (upd G l (.lst xs)) (upd H l (.lst xs)) := Grow.newF s hl'
    have gx' : upd G l (.lst xs) x = none := by rw [upd_ne nxl]; exact gx
    exact k l _ _ (g1.trans (Grow.write g1.gh gx' rfl)) gx' upd_same (.lst upd_same (h2.up g1.gg))
def fs5 (a b c d : Addr) (v : V) : List (Str × V) := putF "faults" v (putF "sources" (.ref d) (putF "links" (.ref c) (putF "clocks" (.ref b) (putF "devices" (.ref a) []))))
theorem fs5_at (a b c d : Addr) (v : V) (m : Str) : (fs5 a b c d v).lookup m = if m = "faults" then some v else if m = "sources" then some (.ref d) else if m = "links" then some (.ref c) else if m = "clocks" then some (.ref b) else if m = "devices" then some (.ref a) else none := by
  unfold fs5
  rw [lookup_putF, lookup_putF, lookup_putF, lookup_putF, lookup_putF]
  rfl
theorem wp_init {K : Fg} {C : Addr} (T : Cls3 K C) (N : List Str) (vs : List V) (H : Hp) (Q : VK) (E : XK) (h : sp_init K C vs H Q E) : t_init K C { nx := fun _ H' => Q .non H', rt := Q } (L2.start N vs) H := by
  obtain ⟨G, x, dx, vd, vc, vl, vs', vf, dd, cc, ll, ss, rfl, s, gx, hh, d1, d2, d3, d4, k⟩ := h
  unfold t_init
  refine seq_i (fld_step T.cl T.nD (start_get rfl) (start_get rfl) d1 s gx hh (by show 0 < 1000; decide) fun l1 G1 H1 g1 gx1 hh1 e1 => ?_)
  have k1 := length_putF "devices" (.ref l1) ([] : List (Str × V))
  refine seq_i (fld_step T.cl T.nC (start_get rfl) (start_get rfl) (d2.up g1.gg) g1.gh gx1 hh1 (by rw [List.length_nil] at k1; omega) fun l2 G2 H2 g2 gx2 hh2 e2 => ?_)
  have k2 := length_putF "clocks" (.ref l2) (putF "devices" (.ref l1) ([] : List (Str × V)))
  refine seq_i (fld_step T.cl T.nL (start_get rfl) (start_get rfl) ((d3.up g1.gg).up g2.gg) g2.gh gx2 hh2 (by rw [List.length_nil] at k1; omega) fun l3 G3 H3 g3 gx3 hh3 e3 => ?_)
  have k3 := length_putF "links" (.ref l3) (putF "clocks" (.ref l2) (putF "devices" (.ref l1) ([] : List (Str × V))))
  refine seq_i (fld_step T.cl T.nS (start_get rfl) (start_get rfl) (((d4.up g1.gg).up g2.gg).up g3.gg) g3.gh gx3 hh3 (by rw [List.length_nil] at k1; omega) fun l4 G4 H4 g4 gx4 hh4 e4 => ?_)
  have k4 := length_putF "sources" (.ref l4) (putF "links" (.ref l3) (putF "clocks" (.ref l2) (putF "devices" (.ref l1) ([] : List (Str × V)))))
  refine ⟨vf, start_get rfl, .ref x, start_get rfl, x, C, dx, _, rfl, hh4, T.cl, T.nF, by rw [List.length_nil] at k1; omega, ?_⟩
  have g5 : Grow (fun b => b = x) G4 H4 G4 (upd H4 x (.ins C dx (fs5 l1 l2 l3 l4 vf))) := Grow.write g4.gh gx4 rfl
  refine k G4 _ (fs5 l1 l2 l3 l4 vf) ((((g1.trans g2).trans g3).trans g4).trans g5) upd_same ⟨⟨.ref l2, .ref l3, .ref l4, ?_, ?_, ?_, ?_, ?_, ?_, (e2.up g3.gg).up g4.gg, e3.up g4.gg, e4⟩⟩
  · rw [fs5_at]; rfl
  · rw [fs5_at]; rfl
  · rw [fs5_at]; rfl
  · rw [fs5_at]; rfl
  · rw [fs5_at]; rfl
  · rw [fs5_at]; rfl
/-- an object is frozen that no slot of ours bears -/
theorem S3.frzAt {c : Cn} {γ : List En} {σ : L2.St} {G H : Hp} {p : Addr} {o : HO} (s : S3 c γ σ G H) (h : G p = none) (e : H p = some o) (h0 : c.H0 p = none) (na : ∀ (j : Nat) (ej : En), γ[j]? = some ej → isMut ej = true → σ[j]? ≠ some (some (.ref p))) : S3 c γ σ (upd G p o) H where
  grow := s.grow.frz h e h0
  len := s.len
  ent := fun i e hi => by
    have sm : Same G (upd G p o) := same_frz h
    have k := s.ent i e hi
    have na : isMut e = true → σ[i]? ≠ some (some (.ref p)) := fun m => na i e hi m
    cases e with
    | no => trivial
    | is d => obtain ⟨v, a, b⟩ := k; exact ⟨v, a, b.up sm⟩
    | fr F => obtain ⟨v, a, b⟩ := k; exact ⟨v, a, b.up sm⟩
    | own ds' =>
      obtain ⟨r, ys, a, b, d, e, f⟩ := k
      have hn : r ≠ p := fun z => na rfl (by rw [a, z])
      exact ⟨r, ys, a, by rw [upd_ne hn]; exact b, d, e.up sm, f⟩
    | par w r ds' =>
      obtain ⟨ys, a, b, d, e, f⟩ := k
      have hn : r ≠ p := fun z => na rfl (by rw [a, z])
      exact ⟨ys, a, by rw [upd_ne hn]; exact b, d, e.up sm, f⟩
    | rows r =>
      obtain ⟨ns, a, b, d, e, f⟩ := k
      have hn : r ≠ p := fun z => na rfl (by rw [a, z])
      exact ⟨ns, a, by rw [upd_ne hn]; exact b, d, e, f⟩
    | scr ns => obtain ⟨a, b, d⟩ := k; exact ⟨a, b, sm.seq d⟩
  dis := s.dis
/-- return Frame(..) -/
theorem s_retMake {c : Cn} {γ : List En} {N : List En → Prop} {R : Rt → List En → Prop} {tl : TA} (h : wpD c tl γ fun ds => ∃ (dd cc ll ss : List PyData) (x : PyData), ds = [.list dd, .list cc, .list ll, .list ss, x] ∧ R (.f ⟨cc, ll, ss⟩) γ) :
    wpS c (tRet (tMake c.C (sp_init c.K c.C) [] E0 tl)) γ N R := fun σ G H s D qn qr =>
  h σ G H s _ fun vs ds G1 H1 h1 a1 s1 g1 => by
    obtain ⟨dd, cc, ll, ss, y, rfl, r⟩ := h1
    intro x dx hx hdx hne
    cases a1 with
    | cons b1 a1 =>
    cases a1 with
    | cons b2 a1 =>
    cases a1 with
    | cons b3 a1 =>
    cases a1 with
    | cons b4 a1 =>
    cases a1 with
    | cons b5 a1 =>
    cases a1 with
    | nil =>
    have hx2 : upd H1 dx (.own x) x = none := by rw [upd_ne (Ne.symm hne)]; exact hx
    have g2 : Grow NoM G1 H1 G1 (upd H1 dx (.own x)) := Grow.newM s1.same hdx
    have g3 : Grow NoM G1 (upd H1 dx (.own x)) G1 (upd (upd H1 dx (.own x)) x (.ins c.C dx [])) := Grow.newM g2.gh hx2
    have s3 := (s1.ext g2).ext g3
    have gx1 : G1 x = none := free_of s1.same hx
    have h0 : c.H0 x = none := s1.grow.free hx
    refine ⟨G1, x, dx, _, _, _, _, _, dd, cc, ll, ss, rfl, s3.same, gx1, upd_same, b1, b2, b3, b4, fun G' H' fs g4 hx4 hf => ⟨rfl, ?_⟩⟩
    have nm : ∀ (j : Nat) (ej : En), γ[j]? = some ej → isMut ej = true → σ[j]? ≠ some (some (.ref x)) := s1.apart hx
    have s4 : S3 c γ σ G' H' := s3.step g4 (fun a z => .inr (by rw [z]; exact h0)) rfl fun i e q => ⟨e, q, id, .inl ⟨rfl, fun p m hp z => nm i e q m (by rw [hp, z])⟩⟩
    have gx4 : G' x = none := (g4.keep x _ gx1 upd_same).1
    have s5 := s4.frzAt gx4 hx4 h0 nm
    have sm : Same G' (upd G' x (.ins c.C dx fs)) := same_frz gx4
    obtain ⟨vc, vl, vs', q1, q2, q3, q4, q5, q6, q7, q8, q9⟩ := hf.ex
    exact qr _ (.f ⟨cc, ll, ss⟩) γ σ _ H' r ⟨⟨x, dx, fs, vc, vl, vs', rfl, upd_same, q1, q2, q3, q4, q5, q6, q7.up sm, q8.up sm, q9.up sm⟩⟩ s5
end W3

/-! ## LayS15 -/
namespace W3
open PySem L2
/-- one step: the reading's head tells the rule; what it asks of data is shown by computing -/
local macro_rules | `(tactic| walk_at "w3") => `(tactic| first
  | with_reducible refine s_seq ?_
  | ((with_reducible refine' e_var ?h ?_); (case h => exact rfl))
  | with_reducible refine e_int ?_
  | with_reducible refine e_str ?_
  | with_reducible refine e_non ?_
  | with_reducible refine e_bl ?_
  | with_reducible refine d_nil ?_
  | with_reducible refine d_cons ?_
  | with_reducible refine a_nil ?_
  | ((with_reducible refine' a_f ?h ?_); (case h => exact rfl))
  | ((with_reducible refine' a_m ?h ?m ?_); (case h => exact rfl); (case m => exact rfl))
  | with_reducible refine a_d ?_
  | with_reducible refine e_tup ?_
  | ((with_reducible refine' e_neg ?_))
  | with_reducible refine e_new (n_lst ?_)
  | with_reducible refine e_new (n_cat ?_)
  | with_reducible refine e_new (k_within ?_)
  | with_reducible refine k_within ?_
  | with_reducible refine n_lst ?_
  | with_reducible refine n_cat ?_
  | ((with_reducible refine' e_ixRows ?h ?_); (case h => exact rfl))
  | ((with_reducible refine' e_ixOwn ?h ?l ?_); (case h => exact rfl); (case l => exact rfl))
  | ((with_reducible refine' e_ixScr ?h ?_); (case h => exact rfl))
  | with_reducible refine e_op ?_
  | ((with_reducible refine' x_add ?a ?b ?_); (case a => exact rfl); (case b => exact rfl))
  | ((with_reducible refine' x_sub ?a ?b ?_); (case a => exact rfl); (case b => exact rfl))
  | ((with_reducible refine' x_ixT ?a ?b ?e ?_); (case a => exact rfl); (case b => exact rfl); (case e => exact rfl))
  | ((with_reducible refine' x_ixL ?a ?b ?e ?_); (case a => exact rfl); (case b => exact rfl); (case e => exact rfl))
  | ((with_reducible refine' x_ixT ?a ?b ?e ?_); (case a => exact rfl); (case b => exact rfl); (case e => assumption))
  | ((with_reducible refine' x_ixL ?a ?b ?e ?_); (case a => exact rfl); (case b => exact rfl); (case e => assumption))
  | ((with_reducible refine' x_eqI ?a ?b ?_); (case a => exact rfl); (case b => exact rfl))
  | ((with_reducible refine' x_neI ?a ?b ?_); (case a => exact rfl); (case b => exact rfl))
  | ((with_reducible refine' x_eqS (b := true) ?a ?b ?e ?f ?g ?_); (case a => exact rfl); (case b => exact rfl); (case e => decide +kernel); (case f => decide +kernel); (case g => decide +kernel))
  | ((with_reducible refine' x_eqS (b := false) ?a ?b ?e ?f ?g ?_); (case a => exact rfl); (case b => exact rfl); (case e => decide +kernel); (case f => decide +kernel); (case g => decide +kernel))
  | ((with_reducible refine' x_neS (b := true) ?a ?b ?e ?f ?g ?_); (case a => exact rfl); (case b => exact rfl); (case e => decide +kernel); (case f => decide +kernel); (case g => decide +kernel))
  | ((with_reducible refine' x_neS (b := false) ?a ?b ?e ?f ?g ?_); (case a => exact rfl); (case b => exact rfl); (case e => decide +kernel); (case f => decide +kernel); (case g => decide +kernel))
  | ((with_reducible refine' x_notN (b := true) ?a ?b ?_); (case a => exact rfl); (case b => exact rfl))
  | ((with_reducible refine' x_notN (b := false) ?a ?b ?_); (case a => exact rfl); (case b => exact rfl))
  | with_reducible refine t_test ?_
  | with_reducible refine t_B ?_
  | with_reducible refine t_and ?_
  | with_reducible refine t_or ?_
  | with_reducible refine t_not ?_
  | with_reducible refine t_yes ?_
  | with_reducible refine e_not ?_
  | with_reducible refine e_if ?_
  | ((with_reducible refine' e_clocks ?T ?h ?_); (case T => assumption); (case h => exact rfl))
  | ((with_reducible refine' e_links ?T ?h ?_); (case T => assumption); (case h => exact rfl))
  | ((with_reducible refine' e_sources ?T ?h ?_); (case T => assumption); (case h => exact rfl))
  | ((with_reducible refine' e_lenOwn ?h ?l ?_); (case h => exact rfl); (case l => exact rfl))
  | ((with_reducible refine' e_lenScr ?h ?_); (case h => exact rfl))
  | with_reducible refine e_len ?_
  | ((with_reducible refine' e_tupleOwn ?h ?l ?_); (case h => exact rfl); (case l => exact rfl))
  | with_reducible refine e_tuple ?_
  | with_reducible refine e_int1 ?_
  | with_reducible refine s_if ?_
  | with_reducible refine s_next ?_
  | with_reducible refine g_name ?_
  | ((with_reducible refine' Exists.intro _ (And.intro ?e ?_)); (case e => exact rfl))
  | ((with_reducible refine' Exists.intro _ (Exists.intro _ (Exists.intro _ (Exists.intro _ (Exists.intro _ (And.intro ?e ?_)))))); (case e => exact rfl))
  | ((with_reducible refine' Exists.intro _ (Exists.intro _ (And.intro ?a (And.intro ?b (And.intro ?e ?_))))); (case a => exact rfl); (case b => exact rfl); (case e => exact Nat.le_of_ble_eq_true rfl))
  | with_reducible refine ⟨Nat.le_of_ble_eq_true rfl, ?_⟩
  | ((with_reducible refine' ⟨fun _ => ?_, ?x⟩); (case x => (intro h; exact (nomatch (show true = false from h)))))
  | ((with_reducible refine' ⟨?x, fun _ => ?_⟩); (case x => (intro h; exact (nomatch (show false = true from h))))))
local macro_rules | `(tactic| walk_at "wx") => `(tactic| repeat (walk_at "w3"))
local macro_rules | `(tactic| walk_at "ws") => `(tactic| repeat (first | walk_at "w3" | with_reducible refine s_set ?_ | with_reducible refine s_ret ?_))
local macro_rules | `(tactic| walk_at "wt") => `(tactic| ((with_reducible refine e_take ?_); (walk_at "wx"); (refine' ⟨_, _, _, _, ?e, ?h, ?b, ?_⟩); (case e => exact rfl); (case h => exact rfl); (case b => (refine ⟨?_, ?_, ?_, ?_⟩ <;> first | decide | omega))))
theorem nat_str (k : Nat) (hk : k < 10) : (0 + (k : Int)).natAbs.log2 < 1920 := by
  have e : (0 + (k : Int)).natAbs = k := by omega
  rw [e]
  have h1 : k.log2 ≤ k := Nat.log2_le_self k
  omega
theorem str_small : ∀ k : Nat, k < 10 → ((toString (0 + (k : Int)) : Str)).length ≤ 100 := by
  intro k hk
  match k, hk with
  | 0, _ => decide +kernel
  | 1, _ => decide +kernel
  | 2, _ => decide +kernel
  | 3, _ => decide +kernel
  | 4, _ => decide +kernel
  | 5, _ => decide +kernel
  | 6, _ => decide +kernel
  | 7, _ => decide +kernel
  | 8, _ => decide +kernel
  | 9, _ => decide +kernel
theorem cat_small {x : Str} (hx : x.length ≤ 100) {k : Nat} (hk : k < 10) : x.length + ((toString (0 + (k : Int)) : Str)).length ≤ sizeLine := small_len (by have := str_small k hk; omega)
structure CksOk (i : Nat) (cks : List Ck) : Prop where
  len : cks.length = i
  lo : ∀ c ∈ cks, ∀ b, -(2 ^ 64) < c.lo b ∧ c.lo b < 2 ^ 64
  hi : ∀ c ∈ cks, ∀ b, -(2 ^ 64) < c.hi b ∧ c.hi b < 2 ^ 64
structure LksOk (i : Nat) (lks : List Lk) : Prop where
  len : lks.length = i
  src : ∀ l, lks[0]? = some l → l.src = 0
def frG (p : Addr) (cks : List Ck) (gs : List En) : List En := .rows p :: .own (cks.map Ck.d) :: gs
theorem wp_mkFrame (c : Cn) (p : Addr) :
    wpS c (t_mkFrame c.K c.C) ([.rows p] ++ List.replicate 10 .no) (fun _ => False) fun r γ' => γ'[0]? = some (.rows p) ∧ ∃ f : FrD, FrOk f ∧ r = .f f.fr := by
  unfold t_mkFrame
  refine s_nrm (γ' := [.rows p, .no, .no, .no, .no, .no, .no, .no, .no, .no, .no]) rfl ?_
  refine s_seq (s_setN ?_)
  walk_at "wx"
  -- the clocks
  refine s_for (js := [2]) (i_range1 ?_)
  walk_at "wx"
  walk_at "wt"
  intro m m0 m1
  walk_at "wx"
  refine ⟨by omega, by omega, ?_⟩
  have hm : (2 + m).toNat ≤ 5 := by omega
  refine ⟨fun i γ' => ∃ cks g2 g3 g4 g5 g6, CksOk i cks ∧ γ' = [.rows p, .own (cks.map Ck.d), g2, g3, g4, g5, g6, .no, .no, .no, .no], ⟨[], .no, .no, .no, .no, .no, ⟨rfl, fun _ h => (nomatch h), fun _ h => (nomatch h)⟩, rfl⟩, ?_, ?_⟩
  · rintro i γ' hi ⟨cks, g2, g3, g4, g5, g6, I, rfl⟩
    have hi5 : i < 10 := by omega
    have hil := I.len
    refine g_name ?_
    walk_at "wx"
    refine s_set ?_
    walk_at "wx"
    walk_at "wt"
    intro o o0 o1
    refine s_nrm (γ' := [.rows p, .own (cks.map Ck.d), .is (.int (0 + (i : Int))), .is (.int o), g4, g5, g6, .no, .no, .no, .no]) rfl ?_
    refine s_seq (wpS_mono (N := fun γ' => ∃ o : Int, γ' = [.rows p, .own (cks.map Ck.d), .is (.int (0 + (i : Int))), .is (.int o), g4, g5, g6, .no, .no, .no, .no]) ?_ ?_ (fun _ _ h => h))
    · refine s_if (t_test (e_op ?_))
      walk_at "wx"
      refine x_lt rfl rfl ?_
      walk_at "wx"
      refine ⟨fun _ => ?_, fun _ => s_next ⟨o, rfl⟩⟩
      refine s_set ?_
      walk_at "wx"
      walk_at "wt"
      intro y y0 y1
      walk_at "wx"
      refine x_mod rfl rfl (by decide) ?_
      exact ⟨_, rfl⟩
    rintro γ' ⟨o, rfl⟩
    refine s_seq (s_set ?_)
    walk_at "wx"
    walk_at "wt"
    intro lo lo0 lo1
    walk_at "wx"
    refine s_set ?_
    walk_at "wx"
    walk_at "wt"
    intro ot ot0 ot1
    walk_at "wx"
    refine s_set ?_
    walk_at "wx"
    walk_at "wt"
    intro x x0 x1
    walk_at "wx"
    walk_at "wt"
    intro y y0 y1
    walk_at "wx"
    refine s_app rfl (by rw [List.length_map]; omega) ?_
    walk_at "wx"
    refine e_str1 ?_
    walk_at "wx"
    refine ⟨nat_str i hi5, ?_⟩
    refine x_catS rfl rfl (cat_small (by decide) hi5) ?_
    walk_at "wx"
    walk_at "wt"
    intro z z0 z1
    walk_at "wx"
    refine' ⟨cks ++ [⟨"c" ++ toString (0 + (i : Int)), o, decide (z = 1), fun b => cond b (1 + ot) (1 + lo), fun b => cond b (1 + ot + y) (1 + lo + x)⟩], _, _, _, _, _, ⟨?len, ?lo, ?hi⟩, ?h⟩
    case h =>
      rw [List.map_append]
      exact rfl
    case len =>
      rw [List.length_append, hil]
      rfl
    case lo =>
      intro k hk b
      rcases List.mem_append.mp hk with a | a
      · exact I.lo k a b
      · have e := List.mem_singleton.mp a
        subst e
        cases b
        · show -(2 ^ 64) < 1 + lo ∧ 1 + lo < 2 ^ 64
          omega
        · show -(2 ^ 64) < 1 + ot ∧ 1 + ot < 2 ^ 64
          omega
    case hi =>
      intro k hk b
      rcases List.mem_append.mp hk with a | a
      · exact I.hi k a b
      · have e := List.mem_singleton.mp a
        subst e
        cases b
        · show -(2 ^ 64) < 1 + lo + x ∧ 1 + lo + x < 2 ^ 64
          omega
        · show -(2 ^ 64) < 1 + ot + y ∧ 1 + ot + y < 2 ^ 64
          omega
  rintro γ' ⟨cks, g2, g3, g4, g5, g6, I, rfl⟩
  -- the links
  refine s_seq (s_setN ?_)
  walk_at "wx"
  refine s_for (js := [2]) (i_range1 ?_)
  walk_at "wx"
  refine ⟨by decide, by decide, ?_⟩
  refine ⟨fun i γ' => ∃ lks g2 g8, LksOk i lks ∧ γ' = [.rows p, .own (cks.map Ck.d), g2, g3, g4, g5, g6, .own (lks.map Lk.d), g8, .no, .no], ⟨[], g2, .no, ⟨rfl, fun _ h => (nomatch h)⟩, rfl⟩, ?_, ?_⟩
  · rintro i γ' hi ⟨lks, g2, g8, J, rfl⟩
    have hi2 : i < 2 := hi
    have hjl := J.len
    refine g_name ?_
    walk_at "wx"
    refine s_set ?_
    walk_at "wx"
    walk_at "wt"
    intro le le0 le1
    refine s_app rfl (by rw [List.length_map]; omega) ?_
    walk_at "wx"
    refine e_str1 ?_
    walk_at "wx"
    refine ⟨nat_str i (by omega), ?_⟩
    refine x_catS rfl rfl (cat_small (by decide) (by omega)) ?_
    walk_at "wx"
    walk_at "wt"
    intro y y0 y1
    walk_at "wx"
    refine' ⟨lks ++ [⟨"l" ++ toString (0 + (i : Int)), 0 + (i : Int), 1 - (0 + (i : Int)), fun b => cond b (le + 1) le, fun b => cond b none (some (le + y))⟩], _, _, ⟨?len, ?src⟩, ?h⟩
    case h =>
      rw [List.map_append]
      exact rfl
    case len =>
      rw [List.length_append, hjl]
      rfl
    case src =>
      intro l hl
      match i, lks, hjl with
      | 0, [], _ => cases hl; rfl
      | i + 1, a :: r, _ => exact J.src l hl
  rintro γ' ⟨lks, g2, g8, J, rfl⟩
  -- the sources
  refine s_seq (s_setN ?_)
  walk_at "wx"
  refine s_for (js := [2]) (i_range1 ?_)
  walk_at "wx"
  walk_at "wt"
  intro n n0 n1
  walk_at "wx"
  refine ⟨by omega, by omega, ?_⟩
  refine ⟨fun i γ' => ∃ (srs : List Sr) (g2 g10 : En), srs.length = i ∧ γ' = [.rows p, .own (cks.map Ck.d), g2, g3, g4, g5, g6, .own (lks.map Lk.d), g8, .own (srs.map Sr.d), g10], ⟨[], g2, .no, rfl, rfl⟩, ?_, ?_⟩
  · rintro i γ' hi ⟨srs, g2, g10, hsl, rfl⟩
    have hi2 : i < 10 := by omega
    refine g_name ?_
    walk_at "wx"
    refine s_set ?_
    walk_at "wx"
    walk_at "wt"
    intro ea ea0 ea1
    refine s_app rfl (by rw [List.length_map]; omega) ?_
    walk_at "wx"
    refine e_str1 ?_
    walk_at "wx"
    refine ⟨nat_str i hi2, ?_⟩
    refine x_catS rfl rfl (cat_small (by decide) hi2) ?_
    walk_at "wx"
    walk_at "wt"
    intro y y0 y1
    walk_at "wx"
    refine' ⟨srs ++ [⟨"s" ++ toString (0 + (i : Int)), y, fun b => cond b 2 ea, fun b => cond b (ea + 1) 3⟩], _, _, ?len, ?h⟩
    case h =>
      rw [List.map_append]
      exact rfl
    case len =>
      rw [List.length_append, hsl]
      rfl
  rintro γ' ⟨srs, g2, g10, hsl, rfl⟩
  -- the frame
  refine s_frz 1 rfl (s_frz 7 rfl (s_frz 9 rfl (s_retMake ?_)))
  walk_at "wx"
  match lks, J with
  | [l0, l1], J =>
    refine ⟨rfl, ⟨cks, l0, l1, srs⟩, ⟨?_, ?_, I.lo, I.hi, J.src l0 rfl⟩, rfl⟩
    · have := I.len
      show cks.length ≤ 100
      omega
    · show srs.length ≤ 100
      omega
  | [], J => exact absurd J.len (by show ¬ 0 = 2; decide)
  | [_], J => exact absurd J.len (by show ¬ 1 = 2; decide)
  | _ :: _ :: _ :: r, J => exact absurd J.len (by show ¬ r.length + 3 = 2; omega)
end W3

/-! ## LayS16 -/
namespace W3
open PySem L2
/-! ### slots told anew -/
theorem S3.retell {c : Cn} {γ : List En} {σ : L2.St} {G H : Hp} {i : Nat} {e e' : En} (s : S3 c γ σ G H) (h : γ[i]? = some e) (m : isMut e = true) (he : EnAt c G H e' σ[i]?) : S3 c (γ.set i e') σ G H :=
  s.step (M := NoM) (Grow.refl s.same) (fun _ z => z.elim) List.length_set fun j ej q => by
    by_cases hj : j = i
    · subst hj
      rw [List.getElem?_set_self (List.getElem?_eq_some_iff.mp h).1] at q
      cases q
      exact ⟨_, h, fun _ => m, .inr he⟩
    · rw [List.getElem?_set_ne (Ne.symm hj)] at q
      exact ⟨ej, q, id, .inl ⟨rfl, fun _ _ _ z => z⟩⟩
theorem flat_ints {K : Fg} {G : Hp} : ∀ {xs : List V} {ns : List Int}, DaAll K G xs (ns.map PyData.int) → xs = ns.map V.int
  | _, [], h => by cases h; rfl
  | _, n :: ns, h => by
    cases h with
    | cons h1 h2 =>
      obtain rfl := h1.int_inv
      rw [flat_ints h2]
      rfl
section
variable {c : Cn} {γ : List En} {N : List En → Prop} {R : Rt → List En → Prop} {t : TS} {i : Nat}
theorem s_rows (i : Nat) {l : List Int} (h : γ[i]? = some (.own (l.map .int))) (hl : l.length = 18) (k : ∀ p, wpS c t (γ.set i (.rows p)) N R) : wpS c t γ N R := fun σ G H s D qn qr => by
  obtain ⟨p, xs, e1, e2, e3, e4, e5⟩ := s.ent i _ h
  obtain rfl := flat_ints e4
  exact k p σ G H (s.retell h rfl ⟨l, e1, e2, e3, hl, .inr e5⟩) D qn qr
theorem s_par (i : Nat) {ds : List PyData} (h : γ[i]? = some (.own ds)) (k : ∀ q, wpS c t (γ.set i (.par true q ds)) N R) : wpS c t γ N R := fun σ G H s D qn qr => by
  obtain ⟨p, xs, e1, e2, e3, e4, e5⟩ := s.ent i _ h
  exact k p σ G H (s.retell h rfl ⟨xs, e1, e2, e3, e4, fun _ => .inr e5⟩) D qn qr
theorem s_own (i : Nat) {q : Addr} {ds : List PyData} (h : γ[i]? = some (.par true q ds)) (hM : ∀ a, ¬ c.M a) (k : wpS c t (γ.set i (.own ds)) N R) : wpS c t γ N R := fun σ G H s D qn qr => by
  obtain ⟨xs, e1, e2, e3, e4, e5⟩ := s.ent i _ h
  exact k σ G H (s.retell h rfl ⟨q, xs, e1, e2, e3, e4, (e5 rfl).elim (fun z => absurd z (hM q)) id⟩) D qn qr
/-! ### the calls of the law's own defs -/
theorem n_draws {ns : List Int} {P : List PyData → Prop} (h : γ[i]? = some (.scr ns)) (hl : ns.length ≤ 1000) (p : ∀ l : List Int, l.length = 18 → P (l.map .int)) : wpN c (tCall (sp_draws c.K c.C) [] E0 (tCons (tVar i) (tCons (tC (.int 18)) tNil))) γ P := fun σ G H s Q q => by
  obtain ⟨a, e1, e2⟩ := s.ent i _ h
  refine ⟨_, e1, G, ns, s.same, ⟨rfl, ?_, ?_⟩, hl, ?_⟩
  · intro m e hm
    match m, hm with
    | 0, hm => cases hm; exact ⟨_, rfl, a, rfl, e2⟩
    | 1, hm => cases hm; exact ⟨_, rfl, _, rfl, .int _⟩
  · intro m m' em em' r h1 h2 m1 m2 _ _
    match m, h1 with
    | 0, h1 => cases h1; cases m1
    | 1, h1 => cases h1; cases m1
  · rintro v r γ' σ' G' H' ⟨l, hl, rfl⟩ ra s'
    obtain ⟨p', xs, rfl, f1, f2, f3, f4⟩ := ra
    exact q p' xs _ G' H' (p l hl) (s.ext s'.grow) (s'.grow.mono fun _ z => z.elim) f1 f2 f3 f4
theorem s_mkFrame {j : Nat} {p : Addr} (hi : γ[i]? = some (.rows p)) (k : ∀ f : FrD, FrOk f → N (γ.set j (.fr f.fr))) : wpS c (tAsg (tCall (sp_mkFrame c.K c.C) [] E0 (tCons (tVar i) tNil)) (gName j)) γ N R := fun σ G H s D qn qr => by
  obtain ⟨ns, e1, e2, e3, e4, e5⟩ := s.ent i _ hi
  refine ⟨_, e1, G, p, s.same, ⟨rfl, ?_, ?_⟩, trivial, ?_⟩
  · intro m e hm
    match m, hm with
    | 0, hm => cases hm; exact ⟨_, rfl, ns, rfl, e2, e3, e4, .inl rfl⟩
  · intro m m' em em' r h1 h2 m1 m2 _ _
    match m, m', h1, h2 with
    | 0, 0, _, _ => rfl
  · rintro v r γ' σ' G' H' ⟨hr0, f, fok, rfl⟩ ra s'
    obtain ⟨ns', f1, f2, f3, f4, f5⟩ := s'.ent 0 _ hr0
    obtain ⟨s2, g2⟩ := s.wrote hi s'.grow f2 f3 f4
    exact qn _ _ G' H' (k f fok) (s2.set ⟨v, rfl, ra⟩ (fun m => by cases m)) g2.gg
theorem call_events {σ : L2.St} {G H : Hp} {f : FrD} {dev : Int} {p q : Addr} {words : List Nat} {Q : VK} (s : S3 c γ σ G H) (h1 : γ[1]? = some (.rows p)) (h2 : γ[2]? = some (.fr f.fr)) (h3 : γ[3]? = some (.par true q (words.map natD)))
    (hp : FrOk f ∧ (dev = 0 ∨ dev = 1) ∧ words.length ≤ 50)
    (k : ∀ (v : V) (evs : List Ev) (words' : List Nat) (G' H' : Hp), EvsOk ⟨p, f, dev, q, words⟩ evs words' → Da c.K G' v (.list (evs.map Ev.d)) → S3 c (γ.set 3 (.par true q (words'.map natD))) σ G' H' → Same G G' → Q v H') :
    (tCall (sp_events c.K c.C) [] E0 (tCons (tVar 1) (tCons (tVar 2) (tCons (tC (.int dev)) (tCons (tVar 3) tNil))))) σ H Q := by
  obtain ⟨ns, e1, e2, e3, e4, e5⟩ := s.ent 1 _ h1
  obtain ⟨fv, ef, hf⟩ := s.ent 2 _ h2
  obtain ⟨xs, d1, d2, d3, d4, d5⟩ := s.ent 3 _ h3
  have hpq : p ≠ q := fun z => by
    subst z
    have := s.dis 1 3 _ _ p h1 h3 rfl rfl e1 d1
    exact absurd this (by decide)
  refine ⟨_, e1, _, ef, _, d1, G, ⟨p, f, dev, q, words⟩, s.same, ⟨rfl, ?_, ?_⟩, hp, ?_⟩
  · intro m e hm
    match m, hm with
    | 0, hm => cases hm; exact ⟨_, rfl, ns, rfl, e2, e3, e4, .inl (.inl rfl)⟩
    | 1, hm => cases hm; exact ⟨_, rfl, fv, rfl, hf⟩
    | 2, hm => cases hm; exact ⟨_, rfl, _, rfl, .int _⟩
    | 3, hm => cases hm; exact ⟨_, rfl, xs, rfl, d2, d3, d4, fun _ => .inl (.inr rfl)⟩
  · intro m m' em em' r h1 h2 m1 m2 q1 q2
    match m, m', h1, h2 with
    | 0, 0, _, _ => rfl
    | 3, 3, _, _ => rfl
    | 0, 3, _, _ => exact absurd ((V.ref.inj (Option.some.inj q1)).trans (V.ref.inj (Option.some.inj q2)).symm) hpq
    | 3, 0, _, _ => exact absurd ((V.ref.inj (Option.some.inj q2)).trans (V.ref.inj (Option.some.inj q1)).symm) hpq
    | 1, _, h1, _ => cases h1; cases m1
    | 2, _, h1, _ => cases h1; cases m1
    | 0, 1, _, h2 => cases h2; cases m2
    | 0, 2, _, h2 => cases h2; cases m2
    | 3, 1, _, h2 => cases h2; cases m2
    | 3, 2, _, h2 => cases h2; cases m2
  · rintro v r γ' σ' G' H' ⟨hr0, evs, words', hr3, rfl, hev⟩ ra s'
    obtain ⟨ns', f1, f2, f3, f4, f5⟩ := s'.ent 0 _ hr0
    obtain ⟨ys, w1, w2, w3, w4, w5⟩ := s'.ent 3 _ hr3
    obtain ⟨l, zs, rfl, b1, b2, b3, b4⟩ := ra
    have g := s'.grow
    have s2 : S3 c (γ.set 3 (.par true q (words'.map natD))) σ G' H' := by
      refine s.step g (fun a z => ?_) List.length_set fun j ej hj => ?_
      · rcases z with z | z
        · rw [show a = p from z]; exact e5
        · rw [show a = q from z]; exact d5 rfl
      · by_cases j3 : j = 3
        · subst j3
          rw [List.getElem?_set_self (List.getElem?_eq_some_iff.mp h3).1] at hj
          cases hj
          exact ⟨_, h3, fun _ => rfl, .inr ⟨ys, d1, w2, w3, w4, fun _ => d5 rfl⟩⟩
        · rw [List.getElem?_set_ne (Ne.symm j3)] at hj
          by_cases j1 : j = 1
          · subst j1
            rw [h1] at hj
            cases hj
            exact ⟨_, h1, fun _ => rfl, .inr ⟨ns', e1, f2, f3, f4, e5⟩⟩
          · refine ⟨ej, hj, id, .inl ⟨rfl, fun r m hr z => ?_⟩⟩
            rcases z with z | z
            · have z' : r = p := z
              subst z'
              exact j1 (s.dis j 1 ej _ _ hj h1 m rfl hr e1)
            · have z' : r = q := z
              subst z'
              exact j3 (s.dis j 3 ej _ _ hj h3 m rfl hr d1)
    have na : ∀ (j : Nat) (ej : En), (γ.set 3 (.par true q (words'.map natD)))[j]? = some ej → isMut ej = true → σ[j]? ≠ some (some (.ref l)) := fun j ej hj m hr => by
      have hm : ∃ e0, γ[j]? = some e0 ∧ isMut e0 = true := by
        by_cases j3 : j = 3
        · subst j3; exact ⟨_, h3, rfl⟩
        · rw [List.getElem?_set_ne (Ne.symm j3)] at hj
          exact ⟨ej, hj, m⟩
      obtain ⟨e0, q1, q2⟩ := hm
      exact s.apart b4 j e0 q1 q2 hr
    have sm : Same G' (upd G' l (.lst zs)) := same_frz b1
    exact k (.ref l) evs words' _ H' hev (.lst upd_same (b3.up sm)) (s2.frzAt b1 b2 (s.grow.free b4) na) (g.gg.trans sm)
theorem s_ev0 {f : FrD} {dev : Int} {p q : Addr} {words : List Nat} (h1 : γ[1]? = some (.rows p)) (h2 : γ[2]? = some (.fr f.fr)) (h3 : γ[3]? = some (.par true q (words.map natD))) (hp : FrOk f ∧ (dev = 0 ∨ dev = 1) ∧ words.length ≤ 50)
    (k : ∀ (evs : List Ev) (words' : List Nat), EvsOk ⟨p, f, dev, q, words⟩ evs words' → N ((γ.set 3 (.par true q (words'.map natD))).set 4 (.own [.list (evs.map Ev.d)]))) :
    wpS c (tAsg (tLst (tCons (tCall (sp_events c.K c.C) [] E0 (tCons (tVar 1) (tCons (tVar 2) (tCons (tC (.int dev)) (tCons (tVar 3) tNil))))) tNil)) (gName 4)) γ N R := fun σ G H s D qn qr => by
  refine call_events s h1 h2 h3 hp fun v evs words' G1 H1 hev hv s1 sm => ⟨small_len (by show 1 ≤ 1000000; decide), fun l hl => ?_⟩
  have s2 := s1.ext (Grow.newM (o := .lst [v]) s1.same hl)
  exact qn _ _ G1 _ (k evs words' hev) (s2.set ⟨l, [v], rfl, free_of s1.same hl, upd_same, .one hv, s1.grow.free hl⟩ (fun _ j ej r hj mj er _ z => by
    cases er
    exact s1.apart hl j ej hj mj z)) sm
theorem s_ev1 {f : FrD} {dev : Int} {p q : Addr} {words : List Nat} {ds : List PyData} (h1 : γ[1]? = some (.rows p)) (h2 : γ[2]? = some (.fr f.fr)) (h3 : γ[3]? = some (.par true q (words.map natD))) (h4 : γ[4]? = some (.own ds)) (hl : ds.length < 1000000) (hp : FrOk f ∧ (dev = 0 ∨ dev = 1) ∧ words.length ≤ 50)
    (k : ∀ (evs : List Ev) (words' : List Nat), EvsOk ⟨p, f, dev, q, words⟩ evs words' → N ((γ.set 3 (.par true q (words'.map natD))).set 4 (.own (ds ++ [.list (evs.map Ev.d)])))) :
    wpS c (tDrop (tBM c.K "list" rAppend (tVar 4) (tCons (tCall (sp_events c.K c.C) [] E0 (tCons (tVar 1) (tCons (tVar 2) (tCons (tC (.int dev)) (tCons (tVar 3) tNil))))) tNil))) γ N R := fun σ G H s D qn qr => by
  obtain ⟨l, xs, e1, e2, e3, e4, e5⟩ := s.ent 4 _ h4
  refine ⟨_, e1, .inl ⟨rfl, _, SqL.of e3⟩, call_events s h1 h2 h3 hp fun v evs words' G1 H1 hev hv s1 sm => ?_⟩
  have h4' : (γ.set 3 (.par true q (words'.map natD)))[4]? = some (.own ds) := by rw [List.getElem?_set_ne (by decide)]; exact h4
  obtain ⟨l', xs', e1', e2', e3', e4', e5'⟩ := s1.ent 4 _ h4'
  rw [e1] at e1'
  cases e1'
  exact ⟨l, xs', v, rfl, rfl, e3', by rw [e4'.len]; exact small_lt hl, qn _ _ G1 _ (k evs words' hev) (s1.putOwn h4' e1 (e4'.append (.one hv))) sm⟩
theorem s_asked {u : TS} {f : FrD} {v0 v1 : List Ev} {dev : Nat} {q : Addr} {due : List Bd} (h2 : γ[2]? = some (.fr f.fr)) (h4 : γ[4]? = some (.is (viewD v0 v1))) (h6 : γ[6]? = some (.is (.int (dev : Nat)))) (h5 : γ[5]? = some (.par true q (due.map Bd.d)))
    (hp : ViewOk f v0 v1 ∧ dev < 2 ∧ due.length ≤ 70000) (k : N (γ.set 5 (.par true q ((due ++ devB f v0 v1 dev).map Bd.d)))) :
    wpS c (tIfS (tNot (tB (tCall (sp_asked c.K c.C) [] E0 (tCons (tVar 2) (tCons (tVar 4) (tCons (tVar 6) (tCons (tVar 5) tNil))))))) u tNext) γ N R := fun σ G H s D qn qr => by
  obtain ⟨fv, ef, hf⟩ := s.ent 2 _ h2
  obtain ⟨vv, ev, hv⟩ := s.ent 4 _ h4
  obtain ⟨dv, ed, hd⟩ := s.ent 6 _ h6
  obtain ⟨xs, d1, d2, d3, d4, d5⟩ := s.ent 5 _ h5
  refine ⟨_, ef, _, ev, _, ed, _, d1, G, ⟨f, v0, v1, dev, q, due⟩, s.same, ⟨rfl, ?_, ?_⟩, hp, ?_⟩
  · intro m e hm
    match m, hm with
    | 0, hm => cases hm; exact ⟨_, rfl, fv, rfl, hf⟩
    | 1, hm => cases hm; exact ⟨_, rfl, vv, rfl, hv⟩
    | 2, hm => cases hm; exact ⟨_, rfl, dv, rfl, hd⟩
    | 3, hm => cases hm; exact ⟨_, rfl, xs, rfl, d2, d3, d4, fun _ => .inl rfl⟩
  · intro m m' em em' r h1 h2 m1 m2 q1 q2
    have z : ∀ (j : Nat) (ej : En), ([.fr f.fr, .is (viewD v0 v1), .is (.int (dev : Nat)), .par true q (due.map Bd.d)] : List En)[j]? = some ej → isMut ej = true → j = 3 := fun j ej hj mj => by
      match j, hj with
      | 0, hj => cases hj; cases mj
      | 1, hj => cases hj; cases mj
      | 2, hj => cases hj; cases mj
      | 3, _ => rfl
    rw [z m em h1 m1, z m' em' h2 m2]
  · rintro v r γ' σ' G' H' ⟨rfl, hr3⟩ ra s'
    obtain ⟨ys, w1, w2, w3, w4, w5⟩ := s'.ent 3 _ hr3
    obtain rfl := Da.bool_inv (show Da c.K G' v (.bool true) from ra)
    refine ⟨true, rfl, ?_⟩
    show D.nx σ H'
    refine qn _ σ G' H' k ?_ s'.grow.gg
    refine s.step s'.grow (fun a z => ?_) List.length_set fun j ej hj => ?_
    · rw [show a = q from z]; exact d5 rfl
    · by_cases j5 : j = 5
      · subst j5
        rw [List.getElem?_set_self (List.getElem?_eq_some_iff.mp h5).1] at hj
        cases hj
        exact ⟨_, h5, fun _ => rfl, .inr ⟨ys, d1, w2, w3, w4, fun _ => d5 rfl⟩⟩
      · rw [List.getElem?_set_ne (Ne.symm j5)] at hj
        refine ⟨ej, hj, id, .inl ⟨rfl, fun r m hr z => ?_⟩⟩
        have z' : r = q := z
        subst z'
        exact j5 (s.dis j 5 ej _ _ hj h5 m rfl hr d1)
end
/-! ### the law -/
def accB (f : FrD) (v0 v1 : List Ev) : Nat → List Bd
  | 0 => []
  | n + 1 => accB f v0 v1 n ++ devB f v0 v1 n
theorem acc_all (f : FrD) (v0 v1 : List Ev) : accB f v0 v1 2 = allB f v0 v1 := rfl
theorem wp_law (c : Cn) (hM : ∀ a, ¬ c.M a) (ns : List Int) (hp : ns.length ≤ 63) :
    wpS c (t_law c.K c.C) ([.scr ns] ++ List.replicate 6 .no) (fun _ => False) fun r _ => r = .d (.bool true) := by
  unfold t_law
  refine s_nrm (γ' := [.scr ns, .no, .no, .no, .no, .no, .no]) rfl ?_
  refine s_seq (s_setN (n_draws rfl (by omega) fun l hl => ?_))
  refine s_rows 1 (l := l) rfl hl fun p => ?_
  refine s_seq (s_mkFrame (p := p) rfl fun f ok => ?_)
  refine s_seq (s_setN (n_lst (d_nil ⟨by decide, ?_⟩)))
  refine s_par 3 (ds := []) rfl fun q => ?_
  refine s_nrm (γ' := [.scr ns, .rows p, .fr f.fr, .par true q (([] : List Nat).map natD), .no, .no, .no]) rfl ?_
  refine s_seq (s_ev0 (f := f) (dev := 0) (p := p) (q := q) (words := []) rfl rfl rfl ⟨ok, .inl rfl, by decide⟩ fun v0 w0 o0 => ?_)
  refine s_nrm (γ' := [.scr ns, .rows p, .fr f.fr, .par true q (w0.map natD), .own [.list (v0.map Ev.d)], .no, .no]) rfl ?_
  have hw0 : w0.length ≤ 50 := by
    have h1 := o0.wl
    have h2 := o0.len
    rw [show (A_events.mk p f 0 q []).words.length = 0 from rfl] at h1
    omega
  refine s_seq (s_ev1 (f := f) (dev := 1) (p := p) (q := q) (words := w0) rfl rfl rfl rfl (by show 1 < 1000000; decide) ⟨ok, .inr rfl, hw0⟩ fun v1 w1 o1 => ?_)
  refine s_frz 4 (ds := [.list (v0.map Ev.d), .list (v1.map Ev.d)]) rfl ?_
  refine s_seq (s_setN (n_lst (d_nil ⟨by decide, ?_⟩)))
  refine s_par 5 (ds := []) rfl fun q2 => ?_
  have hv : ViewOk f v0 v1 := by
    refine ⟨ok, ?_, ?_, fun n hn => ?_, fun n hn => ?_⟩
    · have := o0.len; omega
    · have := o1.len; omega
    · have w := o0.ok n hn
      exact ⟨w.sh, w.af, w.dd.anew, w.dd.mark, fun m hm => absurd (w.dd.hear m hm).1 (by show ¬ (0 : Int) = 1; decide)⟩
    · have w := o1.ok n hn
      refine ⟨w.sh, w.af, w.dd.anew, w.dd.mark, fun m hm => ?_⟩
      rcases o0.new m (w.dd.hear m hm).2 with z | z
      · exact (nomatch (show m ∈ ([] : List Nat) from z))
      · exact z
  refine s_nrm (γ' := [.scr ns, .rows p, .fr f.fr, .par true q (w1.map natD), .is (viewD v0 v1), .par true q2 ((accB f v0 v1 0).map Bd.d), .no]) rfl ?_
  refine s_seq (s_for (js := [6]) (i_range1 (d_cons (e_int (d_nil ⟨2, rfl, by decide, by decide, ?_⟩)))))
  refine ⟨fun i γ' => ∃ g, γ' = [.scr ns, .rows p, .fr f.fr, .par true q (w1.map natD), .is (viewD v0 v1), .par true q2 ((accB f v0 v1 i).map Bd.d), g], ⟨_, rfl⟩, ?_, ?_⟩
  · rintro i γ' hi ⟨g, rfl⟩
    have hi2 : i < 2 := hi
    have e0 : (0 : Int) + (i : Int) = (i : Int) := by omega
    show wpG c _ [6] _ (PyData.int (0 + (i : Int))) _
    rw [e0]
    refine g_name ?_
    have hal : (accB f v0 v1 i).length ≤ 70000 := by
      match i, hi2 with
      | 0, _ => exact Nat.zero_le _
      | 1, _ =>
        have h0 := devSt_len ok v0 0 v0 (v0.length - 1)
        have h1 := o0.len
        have : 700 * (v0.length - 1) ≤ 700 * 100 := Nat.mul_le_mul_left 700 (by omega)
        show (devSt f v0 0 v0 (v0.length - 1)).1.length ≤ 70000
        omega
    exact s_asked (f := f) (v0 := v0) (v1 := v1) (dev := i) (q := q2) (due := accB f v0 v1 i) rfl rfl rfl rfl ⟨hv, hi2, hal⟩ ⟨.is (.int i), rfl⟩
  · rintro γ' ⟨g, rfl⟩
    refine s_own 5 rfl hM (s_frz 5 rfl (s_ret (e_op (k_viewBounds ?_))))
    refine a_f (F := f.fr) rfl (a_d (e_var rfl (a_nil ⟨f, v0, v1, rfl, hv, e_var rfl ?_⟩)))
    show RD c _ (rEqD c.K) (.list ((allB f v0 v1).map Bd.d)) (.list ((accB f v0 v1 2).map Bd.d)) _
    rw [acc_all]
    refine r_eq (sh_bds _) (sh_bds _) ?_
    rw [eq_bds]
end W3

/-! ## LayE -/
namespace W3
open PySem L2
/-! ### what of the text is asked -/
def top (i : Nat) : Stmt := PySem.Challenge.pw_whensure_k68_whole_bounds_of_two_devices.main.body.getD i (.Pass ⟨0, 0, 0, 0⟩)
structure Txt (K : Fg) (C aS : Addr) (mg : Str → Option Value) : Prop where
  cls : Cls3 K C
  start : mg "START" = some (.ref aS)
  hS : ∀ G, Da K G (.ref aS) (Pt.d ⟨-1, 0, -1⟩)
  frame : mg "Frame" = some (.ref C)
  n_len : mg "len" = none
  n_int : mg "int" = none
  n_str : mg "str" = none
  n_list : mg "list" = none
  n_tuple : mg "tuple" = none
  n_range : mg "range" = none
  n_enumerate : mg "enumerate" = none
structure Cal (P : Program) (w : World) (K : Fg) (mg : Str → Option Value) (base : Heap) (x : Str) (ps : List Str) (k : Nat) (sp : Sp) (f : Addr) (fd : FuncData) : Prop where
  ok : FnOk P w K mg base CX0 k f fd ps sp
  bd : Binds K fd ps []
  kp : PySem.W.keepIn K (.ref f) = true
  mg : mg x = some (.ref f)
structure CalM (P : Program) (w : World) (K : Fg) (C : Addr) (mg : Str → Option Value) (base : Heap) (x : Str) (ps : List Str) (k : Nat) (sp : Sp) (f : Addr) (fd : FuncData) : Prop where
  ok : FnOk P w K mg base CX0 k f fd ps sp
  bd : Binds K fd ps []
  mt : Meth K C x f
structure CalI (P : Program) (w : World) (K : Fg) (C : Addr) (mg : Str → Option Value) (base : Heap) (ps : List Str) (k : Nat) (sp : Sp) (f : Addr) (fd : FuncData) : Prop where
  ok : FnOk P w K mg base CX0 k f fd ps sp
  bd : Binds K fd ps []
  mkr : Mk K C f
section
variable {X : Cx}
theorem o_neg : UnR X (unaryOp .USub) tNegU := un_neg
theorem o_add : OpR X (binaryOp .Add) oAdd := op_add
theorem o_sub : OpR X (binaryOp .Sub) oSub := op_sub
theorem o_mul : OpR X (binaryOp .Mult) oMul := op_mul
theorem o_mod : OpR X (binaryOp .Mod) oMod := op_mod
theorem o_div : OpR X (binaryOp .FloorDiv) oDiv := op_fdiv
theorem o_catS : OpR X (binaryOp .Add) oCatS := op_add_str
theorem o_lt : OpR X (compareOp .Lt) oLt := op_lt
theorem o_gt : OpR X (compareOp .Gt) oGt := op_gt
theorem o_notN : OpR X (compareOp .IsNot) oNotN := op_notN
theorem o_in : OpR X (compareOp .In) (oIn X.K) := op_in_seq
theorem o_len : CallR X (.builtin "len") (rLen3 X.K) := call_len_seq
theorem o_int : CallR X (.type "int") rInt3 := call_int1
theorem o_str : CallR X (.type "str") rStr3 := call_str_int
theorem o_list : CallR X (.type "list") (rList3 X.K) := call_list_of
theorem o_tuple : CallR X (.type "tuple") (rTuple3 X.K) := call_tuple_of
end
def sp_law (K : Fg) (C : Addr) : Sp := spE K C (fun ns : List Int => [.scr ns]) (fun _ => NoM) (fun ns => ns.length ≤ 63) fun _ r _ => r = .d (.bool true)
abbrev N_within : List Str := ["first", "second", "least", "most", "part"]
abbrev P_within : List Str := ["first", "second", "least", "most", "part"]
abbrev N_toldKind : List Str := ["deed", "clock", "place"]
abbrev P_toldKind : List Str := ["deed", "clock", "place"]
abbrev N_sentKind : List Str := ["view", "frame", "deed", "word"]
abbrev P_sentKind : List Str := ["view", "frame", "deed"]
abbrev N_linkPart : List Str := ["self", "link"]
abbrev P_linkPart : List Str := ["self", "link"]
abbrev N_sourcePart : List Str := ["self", "source"]
abbrev P_sourcePart : List Str := ["self", "source"]
abbrev N_clocksOf : List Str := ["self", "device", "k", "clock"]
abbrev P_clocksOf : List Str := ["self", "device"]
abbrev N_firstHands : List Str := ["frame", "device", "clock"]
abbrev P_firstHands : List Str := ["frame", "device"]
abbrev N_handAfter : List Str := ["deed", "clock", "place", "point", "hand", "event", "after", "kind"]
abbrev P_handAfter : List Str := ["deed", "clock", "place", "point", "hand", "event", "after"]
abbrev N_clockBounds : List Str := ["rule", "hand", "stopped", "tick", "event", "before", "shown", "low", "high", "part", "since", "value", "kind", "rows", "gain"]
abbrev P_clockBounds : List Str := ["rule", "hand", "stopped", "tick", "event", "before", "shown"]
abbrev N_deedBounds : List Str := ["frame", "event", "deed", "kind", "name", "early", "late", "part", "word", "rows", "least", "most"]
abbrev P_deedBounds : List Str := ["frame", "event", "deed", "kind"]
abbrev N_eventBounds : List Str := ["frame", "record", "hands", "kind", "device", "number", "event", "asleep", "shown", "after", "deed", "knows", "here", "before", "rows", "later", "place", "clock", "row", "hand", "rule", "stopped", "tick", "more", "since", "now"]
abbrev P_eventBounds : List Str := ["frame", "record", "hands", "kind"]
abbrev N_viewBounds : List Str := ["frame", "view", "rows", "device", "events", "hands", "number", "event", "kind", "more"]
abbrev P_viewBounds : List Str := ["frame", "view"]
abbrev N_lawKind : List Str := ["_law_word"]
abbrev P_lawKind : List Str := ["_law_word"]
abbrev N_restDue : List Str := ["_law_frame_here", "_law_here", "_law_event", "_law_word", "_law_deed_here", "_law_kind_here", "_law_part", "_law_point", "_law_due"]
abbrev P_restDue : List Str := ["_law_frame_here", "_law_here", "_law_event", "_law_word"]
abbrev N_clockDue : List Str := ["_law_frame_here", "_law_hand", "_law_c", "_law_here", "_law_event", "_law_place", "_law_since", "_law_low", "_law_high", "_law_shown", "_law_tick", "_law_due", "_law_still", "_law_gain", "_law_later"]
abbrev P_clockDue : List Str := ["_law_frame_here", "_law_hand", "_law_c", "_law_here", "_law_event", "_law_place"]
abbrev N_take : List Str := ["_law_rows", "_law_at", "_law_many", "_law_got"]
abbrev P_take : List Str := ["_law_rows", "_law_at", "_law_many"]
abbrev N_draws : List Str := ["_law_script", "_law_count", "_law_rows", "_law_place", "_law_cell"]
abbrev P_draws : List Str := ["_law_script", "_law_count"]
abbrev N_init : List Str := ["self", "devices", "clocks", "links", "sources", "faults"]
abbrev P_init : List Str := ["self", "devices", "clocks", "links", "sources", "faults"]
abbrev N_mkFrame : List Str := ["_law_rows", "_law_clocks", "_law_k", "_law_owner", "_law_low", "_law_other", "_law_kinds", "_law_links", "_law_least", "_law_sources", "_law_early"]
abbrev P_mkFrame : List Str := ["_law_rows"]
abbrev N_deed : List Str := ["_law_rows", "_law_at", "_law_frame_here", "_law_device", "_law_words", "_law_way", "_law_mine", "_law_near", "_law_k"]
abbrev P_deed : List Str := ["_law_rows", "_law_at", "_law_frame_here", "_law_device", "_law_words"]
abbrev N_events : List Str := ["_law_rows", "_law_frame_here", "_law_device", "_law_words", "_law_events_here", "_law_mine", "_law_shows", "_law_n", "_law_at", "_law_deed_here", "_law_after", "_law_k", "_law_value"]
abbrev P_events : List Str := ["_law_rows", "_law_frame_here", "_law_device", "_law_words"]
abbrev N_asked : List Str := ["_law_frame_here", "_law_view", "_law_device", "_law_due", "_law_hands", "_law_mine", "_law_n", "_law_event", "_law_here", "_law_word", "_law_mine_due", "_law_later", "_law_place", "_law_more", "_law_hand", "_law_told", "_law_bound", "_law_k"]
abbrev P_asked : List Str := ["_law_frame_here", "_law_view", "_law_device", "_law_due"]
abbrev N_law : List Str := ["_law_script", "_law_rows", "_law_frame_here", "_law_words", "_law_view", "_law_due", "_law_device"]
abbrev P_law : List Str := ["_law_script"]
abbrev st_within : Stmt := top 3
theorem sc_within : FnScope N_within P_within (defScope st_within) := ⟨rfl, rfl, rfl, by decide +kernel, rfl, by decide +kernel, by decide +kernel⟩
abbrev st_toldKind : Stmt := top 5
theorem sc_toldKind : FnScope N_toldKind P_toldKind (defScope st_toldKind) := ⟨rfl, rfl, rfl, by decide +kernel, rfl, by decide +kernel, by decide +kernel⟩
abbrev st_sentKind : Stmt := top 10
theorem sc_sentKind : FnScope N_sentKind P_sentKind (defScope st_sentKind) := ⟨rfl, rfl, rfl, by decide +kernel, rfl, by decide +kernel, by decide +kernel⟩
abbrev st_linkPart : Stmt := inClass (top 13) 3
theorem sc_linkPart : FnScope N_linkPart P_linkPart (defScope st_linkPart) := ⟨rfl, rfl, rfl, by decide +kernel, rfl, by decide +kernel, by decide +kernel⟩
abbrev st_sourcePart : Stmt := inClass (top 13) 4
theorem sc_sourcePart : FnScope N_sourcePart P_sourcePart (defScope st_sourcePart) := ⟨rfl, rfl, rfl, by decide +kernel, rfl, by decide +kernel, by decide +kernel⟩
abbrev st_clocksOf : Stmt := inClass (top 13) 2
theorem sc_clocksOf : FnScope N_clocksOf P_clocksOf (defScope st_clocksOf) := ⟨rfl, rfl, rfl, by decide +kernel, rfl, by decide +kernel, by decide +kernel⟩
abbrev st_firstHands : Stmt := top 4
theorem sc_firstHands : FnScope N_firstHands P_firstHands (defScope st_firstHands) := ⟨rfl, rfl, rfl, by decide +kernel, rfl, by decide +kernel, by decide +kernel⟩
abbrev st_handAfter : Stmt := top 6
theorem sc_handAfter : FnScope N_handAfter P_handAfter (defScope st_handAfter) := ⟨rfl, rfl, rfl, by decide +kernel, rfl, by decide +kernel, by decide +kernel⟩
abbrev st_clockBounds : Stmt := top 7
theorem sc_clockBounds : FnScope N_clockBounds P_clockBounds (defScope st_clockBounds) := ⟨rfl, rfl, rfl, by decide +kernel, rfl, by decide +kernel, by decide +kernel⟩
abbrev st_deedBounds : Stmt := top 8
theorem sc_deedBounds : FnScope N_deedBounds P_deedBounds (defScope st_deedBounds) := ⟨rfl, rfl, rfl, by decide +kernel, rfl, by decide +kernel, by decide +kernel⟩
abbrev st_eventBounds : Stmt := top 9
theorem sc_eventBounds : FnScope N_eventBounds P_eventBounds (defScope st_eventBounds) := ⟨rfl, rfl, rfl, by decide +kernel, rfl, by decide +kernel, by decide +kernel⟩
abbrev st_viewBounds : Stmt := top 11
theorem sc_viewBounds : FnScope N_viewBounds P_viewBounds (defScope st_viewBounds) := ⟨rfl, rfl, rfl, by decide +kernel, rfl, by decide +kernel, by decide +kernel⟩
abbrev st_lawKind : Stmt := top 21
theorem sc_lawKind : FnScope N_lawKind P_lawKind (defScope st_lawKind) := ⟨rfl, rfl, rfl, by decide +kernel, rfl, by decide +kernel, by decide +kernel⟩
abbrev st_restDue : Stmt := top 20
theorem sc_restDue : FnScope N_restDue P_restDue (defScope st_restDue) := ⟨rfl, rfl, rfl, by decide +kernel, rfl, by decide +kernel, by decide +kernel⟩
abbrev st_clockDue : Stmt := top 19
theorem sc_clockDue : FnScope N_clockDue P_clockDue (defScope st_clockDue) := ⟨rfl, rfl, rfl, by decide +kernel, rfl, by decide +kernel, by decide +kernel⟩
abbrev st_take : Stmt := top 16
theorem sc_take : FnScope N_take P_take (defScope st_take) := ⟨rfl, rfl, rfl, by decide +kernel, rfl, by decide +kernel, by decide +kernel⟩
abbrev st_draws : Stmt := top 15
theorem sc_draws : FnScope N_draws P_draws (defScope st_draws) := ⟨rfl, rfl, rfl, by decide +kernel, rfl, by decide +kernel, by decide +kernel⟩
abbrev st_init : Stmt := inClass (top 13) 0
theorem sc_init : FnScope N_init P_init (defScope st_init) := ⟨rfl, rfl, rfl, by decide +kernel, rfl, by decide +kernel, by decide +kernel⟩
abbrev st_mkFrame : Stmt := top 17
theorem sc_mkFrame : FnScope N_mkFrame P_mkFrame (defScope st_mkFrame) := ⟨rfl, rfl, rfl, by decide +kernel, rfl, by decide +kernel, by decide +kernel⟩
abbrev st_deed : Stmt := top 18
theorem sc_deed : FnScope N_deed P_deed (defScope st_deed) := ⟨rfl, rfl, rfl, by decide +kernel, rfl, by decide +kernel, by decide +kernel⟩
abbrev st_events : Stmt := top 22
theorem sc_events : FnScope N_events P_events (defScope st_events) := ⟨rfl, rfl, rfl, by decide +kernel, rfl, by decide +kernel, by decide +kernel⟩
abbrev st_asked : Stmt := top 23
theorem sc_asked : FnScope N_asked P_asked (defScope st_asked) := ⟨rfl, rfl, rfl, by decide +kernel, rfl, by decide +kernel, by decide +kernel⟩
abbrev st_law : Stmt := top 24
theorem sc_law : FnScope N_law P_law (defScope st_law) := ⟨rfl, rfl, rfl, by decide +kernel, rfl, by decide +kernel, by decide +kernel⟩
end W3

/-! ## LayF1 -/
namespace W3
open PySem L2
section
variable {P : Program} {w : World} {K : Fg} {mg : Str → Option Value} {base : Heap} {C aS : Addr}
theorem der_within {f : Addr} (T : Txt K C aS mg)  : Der P w K mg base N_within "within" st_within f 0 (t_within K C) := fun cdv A outer s H E hr =>
  (pss_one (ps_ret (pe_lst (pa_cons (pe_tup (pa_cons (pv 0) (pa_cons (pv 1) (pa_cons (pv 3) (pa_cons (pv 4) pa_nil))))) (pa_cons (pe_tup (pa_cons (pv 1) (pa_cons (pv 0) (pa_cons (pe_un o_neg (pv 2)) (pa_cons (pv 4) pa_nil))))) pa_nil)))))
theorem der_toldKind {f : Addr} (T : Txt K C aS mg)  : Der P w K mg base N_toldKind "told_kind" st_toldKind f 0 (t_toldKind K C) := fun cdv A outer s H E hr =>
  (pss_cons (ps_if (PW.pt (pw_and (pt_cmpR (op_eqD hr.units) (pe_ix ix_seq (pv 0) pe_int (fun _ _ => rfl)) pe_str (nomark _)) (pw_and1 (pt_cmpR (op_eqD hr.units) (pe_ix ix_seq (pv 0) pe_int (fun _ _ => rfl)) (pv 1) (nomark _))))) (pss_one (ps_ret (pe_ix ix_seq (pv 0) pe_int (fun _ _ => rfl)))) pss_nil)
  (pss_cons (ps_if (pt_cmpR (op_eqD hr.units) (pe_ix ix_seq (pv 0) pe_int (fun _ _ => rfl)) pe_str (nomark _)) (pss_one (ps_ret (pe_ix ix_seq (pe_ix ix_seq (pv 0) pe_int (fun _ _ => rfl)) (pv 2) (fun _ _ => rfl)))) pss_nil)
  (pss_one (ps_ret pe_non))))
theorem der_sentKind {f : Addr} (T : Txt K C aS mg)  : Der P w K mg base N_sentKind "sent_kind" st_sentKind f 0 (t_sentKind K C) := fun cdv A outer s H E hr =>
  (pss_cons (ps_if (pt_cmpR (op_neD hr.units) (pe_ix ix_seq (pv 2) pe_int (fun _ _ => rfl)) pe_str (nomark _)) (pss_one (ps_ret pe_non)) pss_nil)
  (pss_cons (ps_set (i := 3) sc_sentKind.nd rfl (.inl rfl) (pe_ix ix_seq (pe_ix ix_seq (pe_ix ix_seq (pv 0) (pe_ix ix_seq (pe_ix ix_seq (pe_fld (pv 1) rfl) (pe_ix ix_seq (pv 2) pe_int (fun _ _ => rfl)) (fun _ _ => rfl)) pe_int (fun _ _ => rfl)) (fun _ _ => rfl)) (pe_ix ix_seq (pv 2) pe_int (fun _ _ => rfl)) (fun _ _ => rfl)) pe_int (fun _ _ => rfl)))
  (pss_one (ps_ret (pe_ifExp (pt_cmpR (op_eqD hr.units) (pe_ix ix_seq (pv 3) pe_int (fun _ _ => rfl)) pe_str (nomark _)) (pe_ix ix_seq (pv 3) pe_int (fun _ _ => rfl)) pe_non)))))
theorem der_linkPart {f : Addr} (T : Txt K C aS mg)  : Der P w K mg base N_linkPart "Frame.link_part" st_linkPart f 0 (t_linkPart K C) := fun cdv A outer s H E hr =>
  (pss_one (ps_ret (pe_op o_add (pe_callB o_len (by rfl) T.n_len (by decide +kernel) (pa_cons (pe_fld (pv 0) rfl) pa_nil)) (pv 1))))
theorem der_sourcePart {f : Addr} (T : Txt K C aS mg)  : Der P w K mg base N_sourcePart "Frame.source_part" st_sourcePart f 0 (t_sourcePart K C) := fun cdv A outer s H E hr =>
  (pss_one (ps_ret (pe_op o_add (pe_op o_add (pe_callB o_len (by rfl) T.n_len (by decide +kernel) (pa_cons (pe_fld (pv 0) rfl) pa_nil)) (pe_callB o_len (by rfl) T.n_len (by decide +kernel) (pa_cons (pe_fld (pv 0) rfl) pa_nil))) (pv 1))))
theorem der_clocksOf {f : Addr} (T : Txt K C aS mg)  : Der P w K mg base N_clocksOf "Frame.clocks_of" st_clocksOf f 0 (t_clocksOf K C) := fun cdv A outer s H E hr =>
  (pss_one (ps_ret (pe_lc (own := [("k", 2), ("clock", 3)]) (g := (gTup K 2 (gCons (gName 2) (gCons (gName 3) gNil)))) (tt := (tTest (tOp (rEqD K) (tOp (rIx K) (tVar 3) (tC (.int 1))) (tVar 1)))) rfl sc_clocksOf.nd (pi_enum (by rfl) T.n_enumerate (pa_cons (pe_fld (pv 0) rfl) pa_nil)) (blkOk_by (N := N_clocksOf) (sc := defScope st_clocksOf) (by decide +kernel)) (fun _ _ _ _ _ => (pg_tup rfl (pgs_cons (pg_name (i := 2) sc_clocksOf.nd rfl (.inl rfl)) (pgs_cons (pg_name (i := 3) sc_clocksOf.nd rfl (.inl rfl)) pgs_nil)))) (fun _ _ _ _ _ => (pts_one (pt_cmpR (op_eqD hr.units) (pe_ix ix_seq (pv 3) pe_int (fun _ _ => rfl)) (pv 1) (nomark _)))) (fun _ _ _ _ _ => (pv 2)))))
theorem der_firstHands {f : Addr} (T : Txt K C aS mg) {f_clocksOf : Addr} {fd_clocksOf : FuncData} (c_clocksOf : CalM P w K C mg base "clocks_of" P_clocksOf 1 (sp_clocksOf K C) f_clocksOf fd_clocksOf) : Der P w K mg base N_firstHands "first_hands" st_firstHands f 1 (t_firstHands K C) := fun cdv A outer s H E hr =>
  (pss_one (ps_ret (pe_lc (own := [("clock", 2)]) (g := (gName 2)) (tt := tYes) rfl sc_firstHands.nd (pi_list (pe_meth (pv 0) T.cls.cl c_clocksOf.mt c_clocksOf.ok (hr.mono (by decide)) c_clocksOf.bd .nil pass0 (pa_cons (pv 1) pa_nil))) (blkOk_by (N := N_firstHands) (sc := defScope st_firstHands) (by decide +kernel)) (fun _ _ _ _ _ => (pg_name (i := 2) sc_firstHands.nd rfl (.inl rfl))) (fun _ _ _ _ _ => pts_nil) (fun _ _ _ _ _ => (pe_tup (pa_cons pe_non (pa_cons pe_int (pa_cons pe_int pa_nil))))))))
theorem der_handAfter {f : Addr} (T : Txt K C aS mg) {f_toldKind : Addr} {fd_toldKind : FuncData} (c_toldKind : Cal P w K mg base "told_kind" P_toldKind 1 (sp_toldKind K C) f_toldKind fd_toldKind) : Der P w K mg base N_handAfter "hand_after" st_handAfter f 1 (t_handAfter K C) := fun cdv A outer s H E hr =>
  (pss_cons (ps_set (i := 7) sc_handAfter.nd rfl (.inl rfl) (pe_call c_toldKind.ok (hr.mono (by decide)) (by rfl) c_toldKind.mg c_toldKind.kp c_toldKind.bd .nil pass0 (pa_cons (pv 0) (pa_cons (pv 1) (pa_cons (pv 2) pa_nil)))))
  (pss_cons (ps_if (pt_cmpR o_notN (pv 7) pe_non (nomark _)) (pss_one (ps_ret (pe_tup (pa_cons (pv 3) (pa_cons (pv 6) (pa_cons (pv 7) pa_nil)))))) pss_nil)
  (pss_cons (ps_if (pt_cmpR (op_neD hr.units) (pv 6) (pe_ix ix_seq (pv 4) pe_int (fun _ _ => rfl)) (nomark _)) (pss_one (ps_ret (pe_tup (pa_cons (pv 3) (pa_cons (pv 6) (pa_cons (pe_ix ix_seq (pv 4) pe_int (fun _ _ => rfl)) pa_nil)))))) pss_nil)
  (pss_one (ps_ret (pv 4))))))
theorem der_clockBounds {f : Addr} (T : Txt K C aS mg) {f_within : Addr} {fd_within : FuncData} (c_within : Cal P w K mg base "within" P_within 1 (sp_within K C) f_within fd_within) : Der P w K mg base N_clockBounds "clock_bounds" st_clockBounds f 1 (t_clockBounds K C) := fun cdv A outer s H E hr =>
  (pss_cons (ps_asg (pv 0) (pg_tup rfl (pgs_cons (pg_name (i := 7) sc_clockBounds.nd rfl (.inl rfl)) (pgs_cons (pg_name (i := 8) sc_clockBounds.nd rfl (.inl rfl)) (pgs_cons (pg_name (i := 9) sc_clockBounds.nd rfl (.inl rfl)) pgs_nil)))))
  (pss_cons (ps_asg (pv 1) (pg_tup rfl (pgs_cons (pg_name (i := 10) sc_clockBounds.nd rfl (.inl rfl)) (pgs_cons (pg_name (i := 11) sc_clockBounds.nd rfl (.inl rfl)) (pgs_cons (pg_name (i := 12) sc_clockBounds.nd rfl (.inl rfl)) pgs_nil)))))
  (pss_cons (ps_if (PW.pt (pw_and (pt_cmpR o_notN (pv 10) pe_non (nomark _)) (pw_and (pt_not (pt_val (pv 2))) (pw_and1 (pt_cmpR (op_eqD hr.units) (pv 6) (pv 11) (nomark _)))))) (pss_one (ps_ret (pe_tup (pa_cons (pe_call c_within.ok (hr.mono (by decide)) (by rfl) c_within.mg c_within.kp c_within.bd .nil pass0 (pa_cons (pv 10) (pa_cons (pv 4) (pa_cons pe_int (pa_cons (pv 8) (pa_cons (pv 9) pa_nil)))))) (pa_cons (pv 10) pa_nil))))) pss_nil)
  (pss_cons (ps_set (i := 13) sc_clockBounds.nd rfl (.inl rfl) (pe_lst pa_nil))
  (pss_cons (ps_if (PW.pt (pw_and (pt_cmpR o_notN (pv 10) pe_non (nomark _)) (pw_and1 (pt_not (pt_val (pv 2)))))) (pss_cons (ps_set (i := 14) sc_clockBounds.nd rfl (.inl rfl) (pe_op o_sub (pv 6) (pv 11)))
  (pss_cons (ps_set (i := 13) sc_clockBounds.nd rfl (.inl rfl) (pe_call c_within.ok (hr.mono (by decide)) (by rfl) c_within.mg c_within.kp c_within.bd .nil pass0 (pa_cons (pv 10) (pa_cons (pv 3) (pa_cons (pe_op o_mul (pv 7) (pv 14)) (pa_cons (pe_op o_mul (pv 8) (pv 14)) (pa_cons (pv 9) pa_nil)))))))
  (pss_cons (ps_expr (pe_bm PySem.F.plainAttrs_list PySem.F.slot_list_append PySem.F.type_list_append mt_append (pv 13) (pa_cons (pe_tup (pa_cons (pv 3) (pa_cons (pv 10) (pa_cons pe_int (pa_cons (pv 9) pa_nil))))) pa_nil)))
  (pss_one (ps_expr (pe_bm PySem.F.plainAttrs_list PySem.F.slot_list_append PySem.F.type_list_append mt_append (pv 13) (pa_cons (pe_tup (pa_cons (pv 3) (pa_cons (pv 5) (pa_cons (pe_op o_mul (pe_un o_neg (pv 7)) (pe_op o_sub (pv 14) pe_int)) (pa_cons (pv 9) pa_nil))))) pa_nil))))))) pss_nil)
  (pss_one (ps_ret (pe_tup (pa_cons (pe_op op_cat (pv 13) (pe_call c_within.ok (hr.mono (by decide)) (by rfl) c_within.mg c_within.kp c_within.bd .nil pass0 (pa_cons (pv 3) (pa_cons (pv 4) (pa_cons pe_int (pa_cons (pv 8) (pa_cons (pv 9) pa_nil))))))) (pa_cons (pv 3) pa_nil))))))))))
theorem der_deedBounds {f : Addr} (T : Txt K C aS mg) {f_sourcePart : Addr} {fd_sourcePart : FuncData} (c_sourcePart : CalM P w K C mg base "source_part" P_sourcePart 1 (sp_sourcePart K C) f_sourcePart fd_sourcePart) {f_within : Addr} {fd_within : FuncData} (c_within : Cal P w K mg base "within" P_within 1 (sp_within K C) f_within fd_within) {f_linkPart : Addr} {fd_linkPart : FuncData} (c_linkPart : CalM P w K C mg base "link_part" P_linkPart 1 (sp_linkPart K C) f_linkPart fd_linkPart) : Der P w K mg base N_deedBounds "deed_bounds" st_deedBounds f 1 (t_deedBounds K C aS) := fun cdv A outer s H E hr =>
  (pss_cons (ps_if (pt_cmpR (op_eqD hr.units) (pe_ix ix_seq (pv 2) pe_int (fun _ _ => rfl)) pe_str (nomark _)) (pss_cons (ps_asg (pe_ix ix_seq (pe_ix ix_seq (pe_ix ix_seq (pe_fld (pv 0) rfl) (pe_ix ix_seq (pv 2) pe_int (fun _ _ => rfl)) (fun _ _ => rfl)) pe_int (fun _ _ => rfl)) (pe_ix ix_seq (pv 2) pe_int (fun _ _ => rfl)) (fun _ _ => rfl)) (pg_tup rfl (pgs_cons (pg_name (i := 4) sc_deedBounds.nd rfl (.inl rfl)) (pgs_cons (pg_name (i := 5) sc_deedBounds.nd rfl (.inl rfl)) (pgs_cons (pg_name (i := 6) sc_deedBounds.nd rfl (.inl rfl)) pgs_nil)))))
  (pss_cons (ps_set (i := 7) sc_deedBounds.nd rfl (.inl rfl) (pe_meth (pv 0) T.cls.cl c_sourcePart.mt c_sourcePart.ok (hr.mono (by decide)) c_sourcePart.bd .nil pass0 (pa_cons (pe_ix ix_seq (pv 2) pe_int (fun _ _ => rfl)) pa_nil)))
  (pss_one (ps_ret (pe_call c_within.ok (hr.mono (by decide)) (by rfl) c_within.mg c_within.kp c_within.bd .nil pass0 (pa_cons (pe_glob (by rfl) T.start rfl) (pa_cons (pv 1) (pa_cons (pe_op o_sub (pe_ix ix_seq (pv 2) pe_int (fun _ _ => rfl)) (pv 5)) (pa_cons (pe_op o_add (pe_ix ix_seq (pv 2) pe_int (fun _ _ => rfl)) (pv 6)) (pa_cons (pv 7) pa_nil)))))))))) pss_nil)
  (pss_cons (ps_if (pt_cmpR (op_neD hr.units) (pe_ix ix_seq (pv 2) pe_int (fun _ _ => rfl)) pe_str (nomark _)) (pss_one (ps_ret (pe_lst pa_nil))) pss_nil)
  (pss_cons (ps_set (i := 8) sc_deedBounds.nd rfl (.inl rfl) (pe_tup (pa_cons (pe_ix ix_seq (pe_ix ix_seq (pe_fld (pv 0) rfl) (pe_ix ix_seq (pv 2) pe_int (fun _ _ => rfl)) (fun _ _ => rfl)) pe_int (fun _ _ => rfl)) (pa_cons (pe_ix ix_seq (pv 2) pe_int (fun _ _ => rfl)) (pa_cons (pe_un o_neg pe_int) pa_nil)))))
  (pss_cons (ps_set (i := 9) sc_deedBounds.nd rfl (.inl rfl) (pe_lst (pa_cons (pe_tup (pa_cons (pv 1) (pa_cons (pv 8) (pa_cons pe_int (pa_cons (pe_un o_neg pe_int) pa_nil))))) pa_nil)))
  (pss_cons (ps_if (pt_cmpR o_notN (pv 3) pe_non (nomark _)) (pss_cons (ps_asg (pe_ix ix_seq (pe_ix ix_seq (pe_ix ix_seq (pe_fld (pv 0) rfl) (pe_ix ix_seq (pv 2) pe_int (fun _ _ => rfl)) (fun _ _ => rfl)) pe_int (fun _ _ => rfl)) (pv 3) (fun _ _ => rfl)) (pg_tup rfl (pgs_cons (pg_name (i := 4) sc_deedBounds.nd rfl (.inl rfl)) (pgs_cons (pg_name (i := 10) sc_deedBounds.nd rfl (.inl rfl)) (pgs_cons (pg_name (i := 11) sc_deedBounds.nd rfl (.inl rfl)) pgs_nil)))))
  (pss_cons (ps_set (i := 7) sc_deedBounds.nd rfl (.inl rfl) (pe_meth (pv 0) T.cls.cl c_linkPart.mt c_linkPart.ok (hr.mono (by decide)) c_linkPart.bd .nil pass0 (pa_cons (pe_ix ix_seq (pv 2) pe_int (fun _ _ => rfl)) pa_nil)))
  (pss_cons (ps_expr (pe_bm PySem.F.plainAttrs_list PySem.F.slot_list_append PySem.F.type_list_append mt_append (pv 9) (pa_cons (pe_tup (pa_cons (pv 1) (pa_cons (pv 8) (pa_cons (pe_un o_neg (pv 10)) (pa_cons (pv 7) pa_nil))))) pa_nil)))
  (pss_one (ps_if (pt_cmpR o_notN (pv 11) pe_non (nomark _)) (pss_one (ps_expr (pe_bm PySem.F.plainAttrs_list PySem.F.slot_list_append PySem.F.type_list_append mt_append (pv 9) (pa_cons (pe_tup (pa_cons (pv 8) (pa_cons (pv 1) (pa_cons (pv 11) (pa_cons (pv 7) pa_nil))))) pa_nil)))) pss_nil))))) pss_nil)
  (pss_one (ps_ret (pv 9))))))))
theorem der_eventBounds {f : Addr} (T : Txt K C aS mg) {f_clocksOf : Addr} {fd_clocksOf : FuncData} (c_clocksOf : CalM P w K C mg base "clocks_of" P_clocksOf 1 (sp_clocksOf K C) f_clocksOf fd_clocksOf) {f_clockBounds : Addr} {fd_clockBounds : FuncData} (c_clockBounds : Cal P w K mg base "clock_bounds" P_clockBounds 2 (sp_clockBounds K C) f_clockBounds fd_clockBounds) {f_handAfter : Addr} {fd_handAfter : FuncData} (c_handAfter : Cal P w K mg base "hand_after" P_handAfter 2 (sp_handAfter K C) f_handAfter fd_handAfter) {f_deedBounds : Addr} {fd_deedBounds : FuncData} (c_deedBounds : Cal P w K mg base "deed_bounds" P_deedBounds 2 (sp_deedBounds K C) f_deedBounds fd_deedBounds) : Der P w K mg base N_eventBounds "event_bounds" st_eventBounds f 2 (t_eventBounds K C) := fun cdv A outer s H E hr =>
  (pss_cons (ps_asg (pv 1) (pg_tup rfl (pgs_cons (pg_name (i := 4) sc_eventBounds.nd rfl (.inl rfl)) (pgs_cons (pg_name (i := 5) sc_eventBounds.nd rfl (.inl rfl)) (pgs_cons (pg_name (i := 6) sc_eventBounds.nd rfl (.inl rfl)) pgs_nil)))))
  (pss_cons (ps_asg (pv 6) (pg_tup rfl (pgs_cons (pg_name (i := 7) sc_eventBounds.nd rfl (.inl rfl)) (pgs_cons (pg_name (i := 8) sc_eventBounds.nd rfl (.inl rfl)) (pgs_cons (pg_name (i := 9) sc_eventBounds.nd rfl (.inl rfl)) (pgs_cons (pg_name (i := 10) sc_eventBounds.nd rfl (.inl rfl)) (pgs_cons (pg_name (i := 11) sc_eventBounds.nd rfl (.inl rfl)) pgs_nil)))))))
  (pss_cons (ps_set (i := 12) sc_eventBounds.nd rfl (.inl rfl) (pe_tup (pa_cons (pv 4) (pa_cons (pv 5) (pa_cons (pe_un o_neg pe_int) pa_nil)))))
  (pss_cons (ps_set (i := 13) sc_eventBounds.nd rfl (.inl rfl) (pe_tup (pa_cons (pv 4) (pa_cons (pe_op o_sub (pv 5) pe_int) (pa_cons (pe_un o_neg pe_int) pa_nil)))))
  (pss_cons (ps_set (i := 14) sc_eventBounds.nd rfl (.inl rfl) (pe_lst (pa_cons (pe_tup (pa_cons (pv 12) (pa_cons (pv 13) (pa_cons pe_int (pa_cons (pe_un o_neg pe_int) pa_nil))))) pa_nil)))
  (pss_cons (ps_set (i := 15) sc_eventBounds.nd rfl (.inl rfl) (pe_lst pa_nil))
  (pss_cons (ps_for PassesOwn.never rfl (pi_enum (by rfl) T.n_enumerate (pa_cons (pe_meth (pv 0) T.cls.cl c_clocksOf.mt c_clocksOf.ok (hr.mono (by decide)) c_clocksOf.bd .nil pass0 (pa_cons (pv 4) pa_nil)) pa_nil)) (pg_tup rfl (pgs_cons (pg_name (i := 16) sc_eventBounds.nd rfl (.inl rfl)) (pgs_cons (pg_name (i := 17) sc_eventBounds.nd rfl (.inl rfl)) pgs_nil))) (pss_cons (ps_set (i := 18) sc_eventBounds.nd rfl (.inl rfl) (pe_ix ix_seq (pe_fld (pv 0) rfl) (pv 17) (fun _ _ => rfl)))
  (pss_cons (ps_set (i := 19) sc_eventBounds.nd rfl (.inl rfl) (pe_ix ix_seq (pv 2) (pv 16) (fun _ _ => rfl)))
  (pss_cons (ps_set (i := 20) sc_eventBounds.nd rfl (.inl rfl) (pe_tup (pa_cons (pe_ix ix_seq (pe_ix ix_seq (pe_ix ix_seq (pv 18) pe_int (fun _ _ => rfl)) (pe_ix ix_seq (pv 19) pe_int (fun _ _ => rfl)) (fun _ _ => rfl)) pe_int (fun _ _ => rfl)) (pa_cons (pe_ix ix_seq (pe_ix ix_seq (pe_ix ix_seq (pv 18) pe_int (fun _ _ => rfl)) (pe_ix ix_seq (pv 19) pe_int (fun _ _ => rfl)) (fun _ _ => rfl)) pe_int (fun _ _ => rfl)) (pa_cons (pv 17) pa_nil)))))
  (pss_cons (ps_set (i := 21) sc_eventBounds.nd rfl (.inl rfl) (pe_or (pe_and (pv 7) (pe_one (pe_not (pe_ix ix_seq (pv 18) pe_int (fun _ _ => rfl))))) (pe_one (pe_cmpR (op_eqD hr.units) (pe_ix ix_seq (pv 10) pe_int (fun _ _ => rfl)) pe_str (nomark _)))))
  (pss_cons (ps_set (i := 22) sc_eventBounds.nd rfl (.inl rfl) (pe_tup (pa_cons (pv 4) (pa_cons (pv 5) (pa_cons (pv 17) pa_nil)))))
  (pss_cons (ps_asg (pe_call c_clockBounds.ok (hr.mono (by decide)) (by rfl) c_clockBounds.mg c_clockBounds.kp c_clockBounds.bd .nil pass0 (pa_cons (pv 20) (pa_cons (pv 19) (pa_cons (pv 21) (pa_cons (pv 22) (pa_cons (pv 12) (pa_cons (pv 13) (pa_cons (pe_ix ix_seq (pv 8) (pv 16) (fun _ _ => rfl)) pa_nil)))))))) (pg_tup rfl (pgs_cons (pg_name (i := 23) sc_eventBounds.nd rfl (.inl rfl)) (pgs_cons (pg_name (i := 24) sc_eventBounds.nd rfl (.inl rfl)) pgs_nil))))
  (pss_cons (ps_set (i := 14) sc_eventBounds.nd rfl (.inl rfl) (pe_op op_cat (pv 14) (pv 23)))
  (pss_cons (ps_set (i := 25) sc_eventBounds.nd rfl (.inl rfl) (pe_tup (pa_cons (pv 24) (pa_cons (pe_ix ix_seq (pv 8) (pv 16) (fun _ _ => rfl)) (pa_cons (pe_ix ix_seq (pv 19) pe_int (fun _ _ => rfl)) pa_nil)))))
  (pss_one (ps_expr (pe_bm PySem.F.plainAttrs_list PySem.F.slot_list_append PySem.F.type_list_append mt_append (pv 15) (pa_cons (pe_call c_handAfter.ok (hr.mono (by decide)) (by rfl) c_handAfter.mg c_handAfter.kp c_handAfter.bd .nil pass0 (pa_cons (pv 10) (pa_cons (pv 17) (pa_cons (pv 16) (pa_cons (pv 12) (pa_cons (pv 25) (pa_cons (pv 6) (pa_cons (pe_ix ix_seq (pv 9) (pv 16) (fun _ _ => rfl)) pa_nil)))))))) pa_nil)))))))))))))
  (pss_one (ps_ret (pe_tup (pa_cons (pe_op op_cat (pv 14) (pe_call c_deedBounds.ok (hr.mono (by decide)) (by rfl) c_deedBounds.mg c_deedBounds.kp c_deedBounds.bd .nil pass0 (pa_cons (pv 0) (pa_cons (pv 12) (pa_cons (pv 10) (pa_cons (pv 3) pa_nil)))))) (pa_cons (pv 15) pa_nil))))))))))))
theorem der_viewBounds {f : Addr} (T : Txt K C aS mg) {f_firstHands : Addr} {fd_firstHands : FuncData} (c_firstHands : Cal P w K mg base "first_hands" P_firstHands 2 (sp_firstHands K C) f_firstHands fd_firstHands) {f_sentKind : Addr} {fd_sentKind : FuncData} (c_sentKind : Cal P w K mg base "sent_kind" P_sentKind 1 (sp_sentKind K C) f_sentKind fd_sentKind) {f_eventBounds : Addr} {fd_eventBounds : FuncData} (c_eventBounds : Cal P w K mg base "event_bounds" P_eventBounds 3 (sp_eventBounds K C) f_eventBounds fd_eventBounds) : Der P w K mg base N_viewBounds "view_bounds" st_viewBounds f 3 (t_viewBounds K C) := fun cdv A outer s H E hr =>
  (pss_cons (ps_set (i := 2) sc_viewBounds.nd rfl (.inl rfl) (pe_lst pa_nil))
  (pss_cons (ps_for PassesOwn.never rfl (pi_enum (by rfl) T.n_enumerate (pa_cons (pv 1) pa_nil)) (pg_tup rfl (pgs_cons (pg_name (i := 3) sc_viewBounds.nd rfl (.inl rfl)) (pgs_cons (pg_name (i := 4) sc_viewBounds.nd rfl (.inl rfl)) pgs_nil))) (pss_cons (ps_set (i := 5) sc_viewBounds.nd rfl (.inl rfl) (pe_call c_firstHands.ok (hr.mono (by decide)) (by rfl) c_firstHands.mg c_firstHands.kp c_firstHands.bd .nil pass0 (pa_cons (pv 0) (pa_cons (pv 3) pa_nil))))
  (pss_one (ps_for PassesOwn.never rfl (pi_range2 rfl T.n_range (pa_cons pe_int (pa_cons (pe_callB o_len (by rfl) T.n_len (by decide +kernel) (pa_cons (pv 4) pa_nil)) pa_nil))) (pg_name (i := 6) sc_viewBounds.nd rfl (.inl rfl)) (pss_cons (ps_set (i := 7) sc_viewBounds.nd rfl (.inl rfl) (pe_ix ix_seq (pv 4) (pv 6) (fun _ _ => rfl)))
  (pss_cons (ps_set (i := 8) sc_viewBounds.nd rfl (.inl rfl) (pe_call c_sentKind.ok (hr.mono (by decide)) (by rfl) c_sentKind.mg c_sentKind.kp c_sentKind.bd .nil pass0 (pa_cons (pv 1) (pa_cons (pv 0) (pa_cons (pe_ix ix_seq (pv 7) pe_int (fun _ _ => rfl)) pa_nil)))))
  (pss_cons (ps_asg (pe_call c_eventBounds.ok (hr.mono (by decide)) (by rfl) c_eventBounds.mg c_eventBounds.kp c_eventBounds.bd .nil pass0 (pa_cons (pv 0) (pa_cons (pe_tup (pa_cons (pv 3) (pa_cons (pv 6) (pa_cons (pv 7) pa_nil)))) (pa_cons (pv 5) (pa_cons (pv 8) pa_nil))))) (pg_tup rfl (pgs_cons (pg_name (i := 9) sc_viewBounds.nd rfl (.inl rfl)) (pgs_cons (pg_name (i := 5) sc_viewBounds.nd rfl (.inl rfl)) pgs_nil))))
  (pss_one (ps_set (i := 2) sc_viewBounds.nd rfl (.inl rfl) (pe_op op_cat (pv 2) (pv 9)))))))))))
  (pss_one (ps_ret (pv 2)))))
theorem der_lawKind {f : Addr} (T : Txt K C aS mg)  : Der P w K mg base N_lawKind "_law_kind" st_lawKind f 0 (t_lawKind K C) := fun cdv A outer s H E hr =>
  (pss_cons (ps_if (pt_cmpR (op_eqD hr.units) (pe_ix ix_seq (pv 0) pe_int (fun _ _ => rfl)) pe_str (nomark _)) (pss_one (ps_ret (pe_ix ix_seq (pv 0) pe_int (fun _ _ => rfl)))) pss_nil)
  (pss_one (ps_ret pe_non)))
theorem der_restDue {f : Addr} (T : Txt K C aS mg)  : Der P w K mg base N_restDue "_law_rest_due" st_restDue f 0 (t_restDue K C) := fun cdv A outer s H E hr =>
  (pss_cons (ps_set (i := 4) sc_restDue.nd rfl (.inl rfl) (pe_ix ix_seq (pv 2) pe_int (fun _ _ => rfl)))
  (pss_cons (ps_if (pt_cmpR (op_eqD hr.units) (pe_ix ix_seq (pv 4) pe_int (fun _ _ => rfl)) pe_str (nomark _)) (pss_cons (ps_set (i := 5) sc_restDue.nd rfl (.inl rfl) (pe_ix ix_seq (pe_ix ix_seq (pe_ix ix_seq (pe_fld (pv 0) rfl) (pe_ix ix_seq (pv 4) pe_int (fun _ _ => rfl)) (fun _ _ => rfl)) pe_int (fun _ _ => rfl)) (pe_ix ix_seq (pv 4) pe_int (fun _ _ => rfl)) (fun _ _ => rfl)))
  (pss_cons (ps_set (i := 6) sc_restDue.nd rfl (.inl rfl) (pe_op o_add (pe_op o_add (pe_callB o_len (by rfl) T.n_len (by decide +kernel) (pa_cons (pe_fld (pv 0) rfl) pa_nil)) pe_int) (pe_ix ix_seq (pv 4) pe_int (fun _ _ => rfl))))
  (pss_one (ps_ret (pe_lst (pa_cons (pe_tup (pa_cons (pe_tup (pa_cons (pe_un o_neg pe_int) (pa_cons pe_int (pa_cons (pe_un o_neg pe_int) pa_nil)))) (pa_cons (pv 1) (pa_cons (pe_op o_add (pe_ix ix_seq (pv 4) pe_int (fun _ _ => rfl)) (pe_ix ix_seq (pv 5) pe_int (fun _ _ => rfl))) (pa_cons (pv 6) pa_nil))))) (pa_cons (pe_tup (pa_cons (pv 1) (pa_cons (pe_tup (pa_cons (pe_un o_neg pe_int) (pa_cons pe_int (pa_cons (pe_un o_neg pe_int) pa_nil)))) (pa_cons (pe_op o_sub (pe_ix ix_seq (pv 5) pe_int (fun _ _ => rfl)) (pe_ix ix_seq (pv 4) pe_int (fun _ _ => rfl))) (pa_cons (pv 6) pa_nil))))) pa_nil))))))) pss_nil)
  (pss_cons (ps_if (pt_cmpR (op_neD hr.units) (pe_ix ix_seq (pv 4) pe_int (fun _ _ => rfl)) pe_str (nomark _)) (pss_one (ps_ret (pe_lst pa_nil))) pss_nil)
  (pss_cons (ps_set (i := 7) sc_restDue.nd rfl (.inl rfl) (pe_tup (pa_cons pe_int (pa_cons (pe_ix ix_seq (pv 4) pe_int (fun _ _ => rfl)) (pa_cons (pe_un o_neg pe_int) pa_nil)))))
  (pss_cons (ps_set (i := 8) sc_restDue.nd rfl (.inl rfl) (pe_lst (pa_cons (pe_tup (pa_cons (pv 1) (pa_cons (pv 7) (pa_cons pe_int (pa_cons (pe_un o_neg pe_int) pa_nil))))) pa_nil)))
  (pss_cons (ps_if (pt_cmpR (op_eqD hr.units) (pe_ix ix_seq (pv 3) pe_int (fun _ _ => rfl)) pe_str (nomark _)) (pss_cons (ps_set (i := 5) sc_restDue.nd rfl (.inl rfl) (pe_ix ix_seq (pe_ix ix_seq (pe_ix ix_seq (pe_fld (pv 0) rfl) pe_int (fun _ _ => rfl)) pe_int (fun _ _ => rfl)) (pe_ix ix_seq (pv 3) pe_int (fun _ _ => rfl)) (fun _ _ => rfl)))
  (pss_cons (ps_expr (pe_bm PySem.F.plainAttrs_list PySem.F.slot_list_append PySem.F.type_list_append mt_append (pv 8) (pa_cons (pe_tup (pa_cons (pv 1) (pa_cons (pv 7) (pa_cons (pe_op o_sub pe_int (pe_ix ix_seq (pv 5) pe_int (fun _ _ => rfl))) (pa_cons (pe_callB o_len (by rfl) T.n_len (by decide +kernel) (pa_cons (pe_fld (pv 0) rfl) pa_nil)) pa_nil))))) pa_nil)))
  (pss_one (ps_if (pt_cmpR o_notN (pe_ix ix_seq (pv 5) pe_int (fun _ _ => rfl)) pe_non (nomark _)) (pss_one (ps_expr (pe_bm PySem.F.plainAttrs_list PySem.F.slot_list_append PySem.F.type_list_append mt_append (pv 8) (pa_cons (pe_tup (pa_cons (pv 7) (pa_cons (pv 1) (pa_cons (pe_ix ix_seq (pv 5) pe_int (fun _ _ => rfl)) (pa_cons (pe_callB o_len (by rfl) T.n_len (by decide +kernel) (pa_cons (pe_fld (pv 0) rfl) pa_nil)) pa_nil))))) pa_nil)))) pss_nil)))) pss_nil)
  (pss_one (ps_ret (pv 8)))))))))
end
end W3

/-! ## LayF2 -/
namespace W3
open PySem L2
section
variable {P : Program} {w : World} {K : Fg} {mg : Str → Option Value} {base : Heap} {C aS : Addr}
theorem der_clockDue {f : Addr} (T : Txt K C aS mg)  : Der P w K mg base N_clockDue "_law_clock_due" st_clockDue f 0 (t_clockDue K C) := fun cdv A outer s H E hr =>
  (pss_cons (ps_set (i := 6) sc_clockDue.nd rfl (.inl rfl) (pe_ix ix_seq (pv 1) pe_int (fun _ _ => rfl)))
  (pss_cons (ps_set (i := 7) sc_clockDue.nd rfl (.inl rfl) (pe_ix ix_seq (pe_ix ix_seq (pe_ix ix_seq (pe_ix ix_seq (pe_fld (pv 0) rfl) (pv 2) (fun _ _ => rfl)) pe_int (fun _ _ => rfl)) (pe_ix ix_seq (pv 1) pe_int (fun _ _ => rfl)) (fun _ _ => rfl)) pe_int (fun _ _ => rfl)))
  (pss_cons (ps_set (i := 8) sc_clockDue.nd rfl (.inl rfl) (pe_ix ix_seq (pe_ix ix_seq (pe_ix ix_seq (pe_ix ix_seq (pe_fld (pv 0) rfl) (pv 2) (fun _ _ => rfl)) pe_int (fun _ _ => rfl)) (pe_ix ix_seq (pv 1) pe_int (fun _ _ => rfl)) (fun _ _ => rfl)) pe_int (fun _ _ => rfl)))
  (pss_cons (ps_set (i := 9) sc_clockDue.nd rfl (.inl rfl) (pe_ix ix_seq (pe_ix ix_seq (pv 4) pe_int (fun _ _ => rfl)) (pv 5) (fun _ _ => rfl)))
  (pss_cons (ps_set (i := 10) sc_clockDue.nd rfl (.inl rfl) (pe_tup (pa_cons (pe_ix ix_seq (pv 3) pe_int (fun _ _ => rfl)) (pa_cons (pe_ix ix_seq (pv 3) pe_int (fun _ _ => rfl)) (pa_cons (pv 2) pa_nil)))))
  (pss_cons (ps_set (i := 11) sc_clockDue.nd rfl (.inl rfl) (pe_lst pa_nil))
  (pss_cons (ps_set (i := 12) sc_clockDue.nd rfl (.inl rfl) (pe_and (pe_cmpR (op_neD hr.units) (pe_ix ix_seq (pe_ix ix_seq (pv 4) pe_int (fun _ _ => rfl)) pe_int (fun _ _ => rfl)) pe_str (nomark _)) (pe_one (pe_or (pe_ix ix_seq (pe_ix ix_seq (pe_fld (pv 0) rfl) (pv 2) (fun _ _ => rfl)) pe_int (fun _ _ => rfl)) (pe_one (pe_not (pe_ix ix_seq (pv 4) pe_int (fun _ _ => rfl))))))))
  (pss_cons (ps_if (PW.pt (pw_and (pt_cmpR o_notN (pv 6) pe_non (nomark _)) (pw_and (pt_val (pv 12)) (pw_and1 (pt_cmpR (op_eqD hr.units) (pv 9) (pe_ix ix_seq (pv 1) pe_int (fun _ _ => rfl)) (nomark _)))))) (pss_one (ps_set (i := 10) sc_clockDue.nd rfl (.inl rfl) (pv 6))) (pss_one (ps_if (PW.pt (pw_and (pt_cmpR o_notN (pv 6) pe_non (nomark _)) (pw_and1 (pt_val (pv 12))))) (pss_cons (ps_set (i := 13) sc_clockDue.nd rfl (.inl rfl) (pe_op o_sub (pv 9) (pe_ix ix_seq (pv 1) pe_int (fun _ _ => rfl))))
  (pss_cons (ps_set (i := 11) sc_clockDue.nd rfl (.inl rfl) (pe_lst (pa_cons (pe_tup (pa_cons (pv 6) (pa_cons (pv 10) (pa_cons (pe_op o_mul (pv 8) (pv 13)) (pa_cons (pv 2) pa_nil))))) (pa_cons (pe_tup (pa_cons (pv 10) (pa_cons (pv 6) (pa_cons (pe_op o_sub pe_int (pe_op o_mul (pv 7) (pv 13))) (pa_cons (pv 2) pa_nil))))) (pa_cons (pe_tup (pa_cons (pv 10) (pa_cons (pv 6) (pa_cons pe_int (pa_cons (pv 2) pa_nil))))) pa_nil)))))
  (pss_one (ps_expr (pe_bm PySem.F.plainAttrs_list PySem.F.slot_list_append PySem.F.type_list_append mt_append (pv 11) (pa_cons (pe_tup (pa_cons (pv 10) (pa_cons (pe_tup (pa_cons (pe_ix ix_seq (pv 3) pe_int (fun _ _ => rfl)) (pa_cons (pe_op o_sub (pe_ix ix_seq (pv 3) pe_int (fun _ _ => rfl)) pe_int) (pa_cons (pe_un o_neg pe_int) pa_nil)))) (pa_cons (pe_op o_sub (pv 7) (pe_op o_mul (pv 7) (pv 13))) (pa_cons (pv 2) pa_nil))))) pa_nil)))))) pss_nil)))
  (pss_cons (ps_set (i := 11) sc_clockDue.nd rfl (.inl rfl) (pe_op op_cat (pv 11) (pe_lst (pa_cons (pe_tup (pa_cons (pv 10) (pa_cons (pv 3) (pa_cons (pv 8) (pa_cons (pv 2) pa_nil))))) (pa_cons (pe_tup (pa_cons (pv 3) (pa_cons (pv 10) (pa_cons pe_int (pa_cons (pv 2) pa_nil))))) pa_nil)))))
  (pss_cons (ps_set (i := 14) sc_clockDue.nd rfl (.inl rfl) (pe_tup (pa_cons (pv 10) (pa_cons (pv 9) (pa_cons (pe_ix ix_seq (pv 1) pe_int (fun _ _ => rfl)) pa_nil)))))
  (pss_cons (ps_if (pt_cmpR (op_eqD hr.units) (pe_ix ix_seq (pe_ix ix_seq (pv 4) pe_int (fun _ _ => rfl)) pe_int (fun _ _ => rfl)) pe_str (nomark _)) (pss_one (ps_set (i := 14) sc_clockDue.nd rfl (.inl rfl) (pe_tup (pa_cons (pv 3) (pa_cons (pe_ix ix_seq (pe_ix ix_seq (pv 4) pe_int (fun _ _ => rfl)) (pv 5) (fun _ _ => rfl)) (pa_cons (pe_ix ix_seq (pe_ix ix_seq (pe_ix ix_seq (pv 4) pe_int (fun _ _ => rfl)) pe_int (fun _ _ => rfl)) (pv 5) (fun _ _ => rfl)) pa_nil)))))) (pss_one (ps_if (PW.pt (pw_and (pt_cmpR (op_eqD hr.units) (pe_ix ix_seq (pe_ix ix_seq (pv 4) pe_int (fun _ _ => rfl)) pe_int (fun _ _ => rfl)) pe_str (nomark _)) (pw_and1 (pt_cmpR (op_eqD hr.units) (pe_ix ix_seq (pe_ix ix_seq (pv 4) pe_int (fun _ _ => rfl)) pe_int (fun _ _ => rfl)) (pv 2) (nomark _))))) (pss_one (ps_set (i := 14) sc_clockDue.nd rfl (.inl rfl) (pe_tup (pa_cons (pv 3) (pa_cons (pe_ix ix_seq (pe_ix ix_seq (pv 4) pe_int (fun _ _ => rfl)) (pv 5) (fun _ _ => rfl)) (pa_cons (pe_ix ix_seq (pe_ix ix_seq (pv 4) pe_int (fun _ _ => rfl)) pe_int (fun _ _ => rfl)) pa_nil)))))) (pss_one (ps_if (pt_cmpR (op_neD hr.units) (pe_ix ix_seq (pe_ix ix_seq (pv 4) pe_int (fun _ _ => rfl)) (pv 5) (fun _ _ => rfl)) (pv 9) (nomark _)) (pss_one (ps_set (i := 14) sc_clockDue.nd rfl (.inl rfl) (pe_tup (pa_cons (pv 3) (pa_cons (pe_ix ix_seq (pe_ix ix_seq (pv 4) pe_int (fun _ _ => rfl)) (pv 5) (fun _ _ => rfl)) (pa_cons (pe_ix ix_seq (pv 1) pe_int (fun _ _ => rfl)) pa_nil)))))) pss_nil)))))
  (pss_one (ps_ret (pe_tup (pa_cons (pv 11) (pa_cons (pv 14) pa_nil))))))))))))))))
theorem der_take {f : Addr} (T : Txt K C aS mg)  : Der P w K mg base N_take "_law_take" st_take f 0 (t_take K C) := fun cdv A outer s H E hr =>
  (pss_cons (ps_set (i := 3) sc_take.nd rfl (.inl rfl) (pe_op o_mod (pe_callTy o_int (by rfl) T.n_int (by decide +kernel) (pa_cons (pe_ix ix_seq (pv 0) (pv 1) (fun _ _ => rfl)) pa_nil)) (pv 2)))
  (pss_cons (ps_asg (pe_op o_div (pe_callTy o_int (by rfl) T.n_int (by decide +kernel) (pa_cons (pe_ix ix_seq (pv 0) (pv 1) (fun _ _ => rfl)) pa_nil)) (pv 2)) (pg_sub (pv 0) (pv 1) set_list))
  (pss_one (ps_ret (pv 3)))))
theorem der_draws {f : Addr} (T : Txt K C aS mg)  : Der P w K mg base N_draws "_law_draws" st_draws f 0 (t_draws K C) := fun cdv A outer s H E hr =>
  (pss_cons (ps_set (i := 2) sc_draws.nd rfl (.inl rfl) (pe_lst pa_nil))
  (pss_cons (ps_for PassesOwn.never rfl (pi_range1 rfl T.n_range (pa_cons (pv 1) pa_nil)) (pg_name (i := 3) sc_draws.nd rfl (.inl rfl)) (pss_cons (ps_set (i := 4) sc_draws.nd rfl (.inl rfl) pe_int)
  (pss_cons (ps_if (pt_cmpR o_lt (pv 3) (pe_callB o_len (by rfl) T.n_len (by decide +kernel) (pa_cons (pv 0) pa_nil)) (nomark _)) (pss_one (ps_set (i := 4) sc_draws.nd rfl (.inl rfl) (pe_callTy o_int (by rfl) T.n_int (by decide +kernel) (pa_cons (pe_ix ix_seq (pv 0) (pv 3) (fun _ _ => rfl)) pa_nil)))) pss_nil)
  (pss_cons (ps_if (pt_cmpR o_lt (pv 4) pe_int (nomark _)) (pss_one (ps_set (i := 4) sc_draws.nd rfl (.inl rfl) (pe_op o_sub pe_int (pe_op o_mul pe_int (pv 4))))) pss_nil)
  (pss_cons (ps_if (pt_cmpR o_lt (pv 4) pe_int (nomark _)) (pss_cons (ps_set (i := 4) sc_draws.nd rfl (.inl rfl) (pe_op o_mod (pe_callTy o_int (by rfl) T.n_int (by decide +kernel) (pa_cons (pe_op o_add (pe_op o_mul (pe_op o_add (pe_op o_add (pv 4) (pe_op o_mul pe_int (pv 3))) pe_int) pe_int) (pe_op o_mul (pe_op o_mul (pv 3) (pv 3)) pe_int)) pa_nil)) pe_int))
  (pss_one (ps_set (i := 4) sc_draws.nd rfl (.inl rfl) (pe_op o_mod (pe_callTy o_int (by rfl) T.n_int (by decide +kernel) (pa_cons (pe_op o_add (pe_op o_mul (pv 4) pe_int) pe_int) pa_nil)) pe_int)))) pss_nil)
  (pss_one (ps_expr (pe_bm PySem.F.plainAttrs_list PySem.F.slot_list_append PySem.F.type_list_append mt_append (pv 2) (pa_cons (pv 4) pa_nil)))))))))
  (pss_one (ps_ret (pv 2)))))
theorem der_init {f : Addr} (T : Txt K C aS mg)  : Der P w K mg base N_init "Frame.__init__" st_init f 0 (t_init K C) := fun cdv A outer s H E hr =>
  (pss_cons (ps_fld (pv 0) (pe_callTy o_list (by rfl) T.n_list (by decide +kernel) (pa_cons (pv 1) pa_nil)) rfl)
  (pss_cons (ps_fld (pv 0) (pe_callTy o_list (by rfl) T.n_list (by decide +kernel) (pa_cons (pv 2) pa_nil)) rfl)
  (pss_cons (ps_fld (pv 0) (pe_callTy o_list (by rfl) T.n_list (by decide +kernel) (pa_cons (pv 3) pa_nil)) rfl)
  (pss_cons (ps_fld (pv 0) (pe_callTy o_list (by rfl) T.n_list (by decide +kernel) (pa_cons (pv 4) pa_nil)) rfl)
  (pss_one (ps_fld (pv 0) (pv 5) rfl))))))
theorem der_mkFrame {f : Addr} (T : Txt K C aS mg) {f_take : Addr} {fd_take : FuncData} (c_take : Cal P w K mg base "_law_take" P_take 1 (sp_take K C) f_take fd_take) {f_init : Addr} {fd_init : FuncData} (c_init : CalI P w K C mg base P_init 1 (sp_init K C) f_init fd_init) : Der P w K mg base N_mkFrame "_law_frame" st_mkFrame f 2 (t_mkFrame K C) := fun cdv A outer s H E hr =>
  (pss_cons (ps_set (i := 1) sc_mkFrame.nd rfl (.inl rfl) (pe_lst pa_nil))
  (pss_cons (ps_for PassesOwn.never rfl (pi_range1 rfl T.n_range (pa_cons (pe_op o_add pe_int (pe_call c_take.ok (hr.mono (by decide)) (by rfl) c_take.mg c_take.kp c_take.bd .nil pass0 (pa_cons (pv 0) (pa_cons pe_int (pa_cons pe_int pa_nil))))) pa_nil)) (pg_name (i := 2) sc_mkFrame.nd rfl (.inl rfl)) (pss_cons (ps_set (i := 3) sc_mkFrame.nd rfl (.inl rfl) (pe_call c_take.ok (hr.mono (by decide)) (by rfl) c_take.mg c_take.kp c_take.bd .nil pass0 (pa_cons (pv 0) (pa_cons pe_int (pa_cons pe_int pa_nil)))))
  (pss_cons (ps_if (pt_cmpR o_lt (pv 2) pe_int (nomark _)) (pss_one (ps_set (i := 3) sc_mkFrame.nd rfl (.inl rfl) (pe_op o_mod (pe_callTy o_int (by rfl) T.n_int (by decide +kernel) (pa_cons (pe_op o_add (pv 2) (pe_call c_take.ok (hr.mono (by decide)) (by rfl) c_take.mg c_take.kp c_take.bd .nil pass0 (pa_cons (pv 0) (pa_cons pe_int (pa_cons pe_int pa_nil))))) pa_nil)) pe_int))) pss_nil)
  (pss_cons (ps_set (i := 4) sc_mkFrame.nd rfl (.inl rfl) (pe_op o_add pe_int (pe_call c_take.ok (hr.mono (by decide)) (by rfl) c_take.mg c_take.kp c_take.bd .nil pass0 (pa_cons (pv 0) (pa_cons pe_int (pa_cons pe_int pa_nil))))))
  (pss_cons (ps_set (i := 5) sc_mkFrame.nd rfl (.inl rfl) (pe_op o_add pe_int (pe_call c_take.ok (hr.mono (by decide)) (by rfl) c_take.mg c_take.kp c_take.bd .nil pass0 (pa_cons (pv 0) (pa_cons pe_int (pa_cons pe_int pa_nil))))))
  (pss_cons (ps_set (i := 6) sc_mkFrame.nd rfl (.inl rfl) (pe_tup (pa_cons (pe_tup (pa_cons pe_str (pa_cons (pv 4) (pa_cons (pe_op o_add (pv 4) (pe_call c_take.ok (hr.mono (by decide)) (by rfl) c_take.mg c_take.kp c_take.bd .nil pass0 (pa_cons (pv 0) (pa_cons pe_int (pa_cons pe_int pa_nil))))) pa_nil)))) (pa_cons (pe_tup (pa_cons pe_str (pa_cons (pv 5) (pa_cons (pe_op o_add (pv 5) (pe_call c_take.ok (hr.mono (by decide)) (by rfl) c_take.mg c_take.kp c_take.bd .nil pass0 (pa_cons (pv 0) (pa_cons pe_int (pa_cons pe_int pa_nil))))) pa_nil)))) pa_nil))))
  (pss_one (ps_expr (pe_bm PySem.F.plainAttrs_list PySem.F.slot_list_append PySem.F.type_list_append mt_append (pv 1) (pa_cons (pe_tup (pa_cons (pe_op o_catS pe_str (pe_callTy o_str (by rfl) T.n_str (by decide +kernel) (pa_cons (pv 2) pa_nil))) (pa_cons (pv 3) (pa_cons (pe_cmpR (op_eqD hr.units) (pe_call c_take.ok (hr.mono (by decide)) (by rfl) c_take.mg c_take.kp c_take.bd .nil pass0 (pa_cons (pv 0) (pa_cons pe_int (pa_cons pe_int pa_nil)))) pe_int (nomark _)) (pa_cons (pv 6) pa_nil))))) pa_nil))))))))))
  (pss_cons (ps_set (i := 7) sc_mkFrame.nd rfl (.inl rfl) (pe_lst pa_nil))
  (pss_cons (ps_for PassesOwn.never rfl (pi_range1 rfl T.n_range (pa_cons pe_int pa_nil)) (pg_name (i := 2) sc_mkFrame.nd rfl (.inl rfl)) (pss_cons (ps_set (i := 8) sc_mkFrame.nd rfl (.inl rfl) (pe_call c_take.ok (hr.mono (by decide)) (by rfl) c_take.mg c_take.kp c_take.bd .nil pass0 (pa_cons (pv 0) (pa_cons pe_int (pa_cons pe_int pa_nil)))))
  (pss_one (ps_expr (pe_bm PySem.F.plainAttrs_list PySem.F.slot_list_append PySem.F.type_list_append mt_append (pv 7) (pa_cons (pe_tup (pa_cons (pe_op o_catS pe_str (pe_callTy o_str (by rfl) T.n_str (by decide +kernel) (pa_cons (pv 2) pa_nil))) (pa_cons (pv 2) (pa_cons (pe_op o_sub pe_int (pv 2)) (pa_cons (pe_tup (pa_cons (pe_tup (pa_cons pe_str (pa_cons (pv 8) (pa_cons (pe_op o_add (pv 8) (pe_call c_take.ok (hr.mono (by decide)) (by rfl) c_take.mg c_take.kp c_take.bd .nil pass0 (pa_cons (pv 0) (pa_cons pe_int (pa_cons pe_int pa_nil))))) pa_nil)))) (pa_cons (pe_tup (pa_cons pe_str (pa_cons (pe_op o_add (pv 8) pe_int) (pa_cons pe_non pa_nil)))) pa_nil))) pa_nil))))) pa_nil))))))
  (pss_cons (ps_set (i := 9) sc_mkFrame.nd rfl (.inl rfl) (pe_lst pa_nil))
  (pss_cons (ps_for PassesOwn.never rfl (pi_range1 rfl T.n_range (pa_cons (pe_op o_add pe_int (pe_call c_take.ok (hr.mono (by decide)) (by rfl) c_take.mg c_take.kp c_take.bd .nil pass0 (pa_cons (pv 0) (pa_cons pe_int (pa_cons pe_int pa_nil))))) pa_nil)) (pg_name (i := 2) sc_mkFrame.nd rfl (.inl rfl)) (pss_cons (ps_set (i := 10) sc_mkFrame.nd rfl (.inl rfl) (pe_call c_take.ok (hr.mono (by decide)) (by rfl) c_take.mg c_take.kp c_take.bd .nil pass0 (pa_cons (pv 0) (pa_cons pe_int (pa_cons pe_int pa_nil)))))
  (pss_one (ps_expr (pe_bm PySem.F.plainAttrs_list PySem.F.slot_list_append PySem.F.type_list_append mt_append (pv 9) (pa_cons (pe_tup (pa_cons (pe_op o_catS pe_str (pe_callTy o_str (by rfl) T.n_str (by decide +kernel) (pa_cons (pv 2) pa_nil))) (pa_cons (pe_call c_take.ok (hr.mono (by decide)) (by rfl) c_take.mg c_take.kp c_take.bd .nil pass0 (pa_cons (pv 0) (pa_cons pe_int (pa_cons pe_int pa_nil)))) (pa_cons (pe_tup (pa_cons (pe_tup (pa_cons pe_str (pa_cons (pv 10) (pa_cons pe_int pa_nil)))) (pa_cons (pe_tup (pa_cons pe_str (pa_cons pe_int (pa_cons (pe_op o_add (pv 10) pe_int) pa_nil)))) pa_nil))) pa_nil)))) pa_nil))))))
  (pss_one (ps_ret (pe_make c_init.mkr c_init.ok (hr.mono (by decide)) (by rfl) T.frame c_init.bd .nil pass0 (pa_cons (pe_lst (pa_cons pe_str (pa_cons pe_str pa_nil))) (pa_cons (pv 1) (pa_cons (pv 7) (pa_cons (pv 9) (pa_cons pe_int pa_nil))))))))))))))
theorem der_deed {f : Addr} (T : Txt K C aS mg) {f_take : Addr} {fd_take : FuncData} (c_take : Cal P w K mg base "_law_take" P_take 1 (sp_take K C) f_take fd_take) : Der P w K mg base N_deed "_law_deed" st_deed f 1 (t_deed K C) := fun cdv A outer s H E hr =>
  (pss_cons (ps_set (i := 5) sc_deed.nd rfl (.inl rfl) (pe_call c_take.ok (hr.mono (by decide)) (by rfl) c_take.mg c_take.kp c_take.bd .nil pass0 (pa_cons (pv 0) (pa_cons (pv 1) (pa_cons pe_int pa_nil)))))
  (pss_cons (ps_setLc (i := 6) (own := [("_law_k", 8)]) (g := (gName 8)) (tt := (tTest (tOp (rEqD K) (tOp (rIx K) (tOp (rIx K) (tFld K (tVar 2) "clocks") (tVar 8)) (tC (.int 1))) (tVar 3)))) rfl sc_deed.nd rfl rfl (sw_true rfl rfl rfl (by decide +kernel)) (pi_range1 rfl T.n_range (pa_cons (pe_callB o_len (by rfl) T.n_len (by decide +kernel) (pa_cons (pe_fld (pv 2) rfl) pa_nil)) pa_nil)) (blkOk_by (N := N_deed) (sc := defScope st_deed) (by decide +kernel)) (fun _ _ _ _ _ => (pg_name (i := 8) sc_deed.nd rfl (.inl rfl))) (fun _ _ _ _ _ => (pts_one (pt_cmpR (op_eqD hr.units) (pe_ix ix_seq (pe_ix ix_seq (pe_fld (pv 2) rfl) (pv 8) (fun _ _ => rfl)) pe_int (fun _ _ => rfl)) (pv 3) (nomark _)))) (fun _ _ _ _ _ => (pv 8)))
  (pss_cons (ps_setLc (i := 7) (own := [("_law_k", 8)]) (g := (gName 8)) (tt := (tTest (tOp (rEqD K) (tOp (rIx K) (tOp (rIx K) (tFld K (tVar 2) "sources") (tVar 8)) (tC (.int 1))) (tVar 3)))) rfl sc_deed.nd rfl rfl (sw_true rfl rfl rfl (by decide +kernel)) (pi_range1 rfl T.n_range (pa_cons (pe_callB o_len (by rfl) T.n_len (by decide +kernel) (pa_cons (pe_fld (pv 2) rfl) pa_nil)) pa_nil)) (blkOk_by (N := N_deed) (sc := defScope st_deed) (by decide +kernel)) (fun _ _ _ _ _ => (pg_name (i := 8) sc_deed.nd rfl (.inl rfl))) (fun _ _ _ _ _ => (pts_one (pt_cmpR (op_eqD hr.units) (pe_ix ix_seq (pe_ix ix_seq (pe_fld (pv 2) rfl) (pv 8) (fun _ _ => rfl)) pe_int (fun _ _ => rfl)) (pv 3) (nomark _)))) (fun _ _ _ _ _ => (pv 8)))
  (pss_cons (ps_if (PW.pt (pw_and (pt_cmpR (op_eqD hr.units) (pv 5) pe_int (nomark _)) (pw_and1 (pt_cmpR o_gt (pe_callB o_len (by rfl) T.n_len (by decide +kernel) (pa_cons (pv 6) pa_nil)) pe_int (nomark _))))) (pss_one (ps_ret (pe_tup (pa_cons pe_str (pa_cons (pe_ix ix_seq (pv 6) (pe_call c_take.ok (hr.mono (by decide)) (by rfl) c_take.mg c_take.kp c_take.bd .nil pass0 (pa_cons (pv 0) (pa_cons (pv 1) (pa_cons (pe_callB o_len (by rfl) T.n_len (by decide +kernel) (pa_cons (pv 6) pa_nil)) pa_nil)))) (fun _ _ => rfl)) (pa_cons (pe_call c_take.ok (hr.mono (by decide)) (by rfl) c_take.mg c_take.kp c_take.bd .nil pass0 (pa_cons (pv 0) (pa_cons (pv 1) (pa_cons pe_int pa_nil)))) pa_nil)))))) pss_nil)
  (pss_cons (ps_if (pt_cmpR (op_eqD hr.units) (pv 5) pe_int (nomark _)) (pss_one (ps_ret (pe_tup (pa_cons pe_str (pa_cons (pe_callTy o_tuple (by rfl) T.n_tuple (by decide +kernel) (pa_cons (pe_lc (own := [("_law_k", 8)]) (g := (gName 8)) (tt := tYes) rfl sc_deed.nd (pi_list (pv 6)) (blkOk_by (N := N_deed) (sc := defScope st_deed) (by decide +kernel)) (fun _ _ _ _ _ => (pg_name (i := 8) sc_deed.nd rfl (.inl rfl))) (fun _ _ _ _ _ => pts_nil) (fun _ _ _ _ _ => (pe_call c_take.ok (hr.mono (by decide)) (by rfl) c_take.mg c_take.kp c_take.bd .nil pass0 (pa_cons (pv 0) (pa_cons (pv 1) (pa_cons pe_int pa_nil)))))) pa_nil)) pa_nil))))) pss_nil)
  (pss_cons (ps_if (PW.pt (pw_and (pt_cmpR o_lt (pv 5) pe_int (nomark _)) (pw_and1 (pt_cmpR o_gt (pe_callB o_len (by rfl) T.n_len (by decide +kernel) (pa_cons (pv 7) pa_nil)) pe_int (nomark _))))) (pss_one (ps_ret (pe_tup (pa_cons pe_str (pa_cons (pe_ix ix_seq (pv 7) (pe_call c_take.ok (hr.mono (by decide)) (by rfl) c_take.mg c_take.kp c_take.bd .nil pass0 (pa_cons (pv 0) (pa_cons (pv 1) (pa_cons (pe_callB o_len (by rfl) T.n_len (by decide +kernel) (pa_cons (pv 7) pa_nil)) pa_nil)))) (fun _ _ => rfl)) (pa_cons (pe_call c_take.ok (hr.mono (by decide)) (by rfl) c_take.mg c_take.kp c_take.bd .nil pass0 (pa_cons (pv 0) (pa_cons (pv 1) (pa_cons pe_int pa_nil)))) (pa_cons (pe_op o_sub (pe_call c_take.ok (hr.mono (by decide)) (by rfl) c_take.mg c_take.kp c_take.bd .nil pass0 (pa_cons (pv 0) (pa_cons (pv 1) (pa_cons pe_int pa_nil)))) pe_int) pa_nil))))))) pss_nil)
  (pss_cons (ps_if (PW.pt (pw_and (pt_cmpR (op_eqD hr.units) (pv 5) pe_int (nomark _)) (pw_and1 (pt_cmpR (op_eqD hr.units) (pv 3) pe_int (nomark _))))) (pss_one (ps_ret (pe_tup (pa_cons pe_str (pa_cons pe_int (pa_cons (pe_call c_take.ok (hr.mono (by decide)) (by rfl) c_take.mg c_take.kp c_take.bd .nil pass0 (pa_cons (pv 0) (pa_cons (pv 1) (pa_cons pe_int pa_nil)))) pa_nil)))))) pss_nil)
  (pss_cons (ps_if (PW.pt (pw_and (pt_cmpR (op_eqD hr.units) (pv 5) pe_int (nomark _)) (pw_and1 (pt_cmpR (op_eqD hr.units) (pv 3) pe_int (nomark _))))) (pss_one (ps_ret (pe_tup (pa_cons pe_str (pa_cons pe_int pa_nil))))) pss_nil)
  (pss_cons (ps_if (PW.pt (pw_and (pt_cmpR o_gt (pv 5) pe_int (nomark _)) (pw_and (pt_cmpR (op_eqD hr.units) (pv 3) pe_int (nomark _)) (pw_and1 (pt_cmpR o_gt (pe_callB o_len (by rfl) T.n_len (by decide +kernel) (pa_cons (pv 4) pa_nil)) pe_int (nomark _)))))) (pss_one (ps_ret (pe_tup (pa_cons pe_str (pa_cons pe_int (pa_cons (pe_ix ix_seq (pv 4) (pe_call c_take.ok (hr.mono (by decide)) (by rfl) c_take.mg c_take.kp c_take.bd .nil pass0 (pa_cons (pv 0) (pa_cons (pv 1) (pa_cons (pe_callB o_len (by rfl) T.n_len (by decide +kernel) (pa_cons (pv 4) pa_nil)) pa_nil)))) (fun _ _ => rfl)) pa_nil)))))) pss_nil)
  (pss_cons (ps_if (pt_cmpR (op_eqD hr.units) (pv 5) pe_int (nomark _)) (pss_one (ps_ret (pe_tup (pa_cons pe_str (pa_cons (pe_call c_take.ok (hr.mono (by decide)) (by rfl) c_take.mg c_take.kp c_take.bd .nil pass0 (pa_cons (pv 0) (pa_cons (pv 1) (pa_cons pe_int pa_nil)))) pa_nil))))) pss_nil)
  (pss_one (ps_ret (pe_tup (pa_cons pe_str pa_nil))))))))))))))
theorem der_events {f : Addr} (T : Txt K C aS mg) {f_take : Addr} {fd_take : FuncData} (c_take : Cal P w K mg base "_law_take" P_take 1 (sp_take K C) f_take fd_take) {f_deed : Addr} {fd_deed : FuncData} (c_deed : Cal P w K mg base "_law_deed" P_deed 2 (sp_deed K C) f_deed fd_deed) : Der P w K mg base N_events "_law_events" st_events f 2 (t_events K C) := fun cdv A outer s H E hr =>
  (pss_cons (ps_set (i := 4) sc_events.nd rfl (.inl rfl) (pe_lst (pa_cons (pe_tup (pa_cons pe_bl (pa_cons (pe_tup pa_nil) (pa_cons (pe_tup pa_nil) (pa_cons (pe_tup (pa_cons pe_str pa_nil)) (pa_cons (pe_tup (pa_cons pe_int (pa_cons pe_int pa_nil))) pa_nil)))))) pa_nil)))
  (pss_cons (ps_setLc (i := 5) (own := [("_law_k", 11)]) (g := (gName 11)) (tt := (tTest (tOp (rEqD K) (tOp (rIx K) (tOp (rIx K) (tFld K (tVar 1) "clocks") (tVar 11)) (tC (.int 1))) (tVar 2)))) rfl sc_events.nd rfl rfl (sw_true rfl rfl rfl (by decide +kernel)) (pi_range1 rfl T.n_range (pa_cons (pe_callB o_len (by rfl) T.n_len (by decide +kernel) (pa_cons (pe_fld (pv 1) rfl) pa_nil)) pa_nil)) (blkOk_by (N := N_events) (sc := defScope st_events) (by decide +kernel)) (fun _ _ _ _ _ => (pg_name (i := 11) sc_events.nd rfl (.inl rfl))) (fun _ _ _ _ _ => (pts_one (pt_cmpR (op_eqD hr.units) (pe_ix ix_seq (pe_ix ix_seq (pe_fld (pv 1) rfl) (pv 11) (fun _ _ => rfl)) pe_int (fun _ _ => rfl)) (pv 2) (nomark _)))) (fun _ _ _ _ _ => (pv 11)))
  (pss_cons (ps_setLc (i := 6) (own := [("_law_k", 11)]) (g := (gName 11)) (tt := tYes) rfl sc_events.nd rfl rfl (sw_true rfl rfl rfl (by decide +kernel)) (pi_list (pv 5)) (blkOk_by (N := N_events) (sc := defScope st_events) (by decide +kernel)) (fun _ _ _ _ _ => (pg_name (i := 11) sc_events.nd rfl (.inl rfl))) (fun _ _ _ _ _ => pts_nil) (fun _ _ _ _ _ => (pe_op o_sub (pe_call c_take.ok (hr.mono (by decide)) (by rfl) c_take.mg c_take.kp c_take.bd .nil pass0 (pa_cons (pv 0) (pa_cons pe_int (pa_cons pe_int pa_nil)))) pe_int)))
  (pss_cons (ps_for PassesOwn.never rfl (pi_range2 rfl T.n_range (pa_cons pe_int (pa_cons (pe_op o_add pe_int (pe_call c_take.ok (hr.mono (by decide)) (by rfl) c_take.mg c_take.kp c_take.bd .nil pass0 (pa_cons (pv 0) (pa_cons pe_int (pa_cons pe_int pa_nil))))) pa_nil))) (pg_name (i := 7) sc_events.nd rfl (.inl rfl)) (pss_cons (ps_set (i := 8) sc_events.nd rfl (.inr rfl) (pe_op o_add (pe_op o_add pe_int (pe_op o_mul pe_int (pv 2))) (pv 7)))
  (pss_cons (ps_setLc (i := 6) (own := [("_law_value", 12)]) (g := (gName 12)) (tt := tYes) rfl sc_events.nd rfl rfl (sw_true rfl rfl rfl (by decide +kernel)) (pi_list (pv 6)) (blkOk_by (N := N_events) (sc := defScope st_events) (by decide +kernel)) (fun _ _ _ _ _ => (pg_name (i := 12) sc_events.nd rfl (.inl rfl))) (fun _ _ _ _ _ => pts_nil) (fun _ _ _ _ _ => (pe_op o_sub (pe_op o_add (pv 12) (pe_call c_take.ok (hr.mono (by decide)) (by rfl) c_take.mg c_take.kp c_take.bd .nil pass0 (pa_cons (pv 0) (pa_cons (pv 8) (pa_cons pe_int pa_nil))))) pe_int)))
  (pss_cons (ps_set (i := 9) sc_events.nd rfl (.inl rfl) (pe_call c_deed.ok (hr.mono (by decide)) (by rfl) c_deed.mg c_deed.kp c_deed.bd .nil pass0 (pa_cons (pv 0) (pa_cons (pv 8) (pa_cons (pv 1) (pa_cons (pv 2) (pa_cons (pv 3) pa_nil)))))))
  (pss_cons (ps_set (i := 10) sc_events.nd rfl (.inl rfl) (pe_callTy o_list (by rfl) T.n_list (by decide +kernel) (pa_cons (pv 6) pa_nil)))
  (pss_cons (ps_if (PW.pt (pw_and (pt_cmpR (op_eqD hr.units) (pv 9) (pe_tup (pa_cons pe_str pa_nil)) (nomark _)) (pw_and (pt_cmpR o_gt (pe_callB o_len (by rfl) T.n_len (by decide +kernel) (pa_cons (pv 10) pa_nil)) pe_int (nomark _)) (pw_and1 (pt_cmpR (op_eqD hr.units) (pe_call c_take.ok (hr.mono (by decide)) (by rfl) c_take.mg c_take.kp c_take.bd .nil pass0 (pa_cons (pv 0) (pa_cons (pv 8) (pa_cons pe_int pa_nil)))) pe_int (nomark _)))))) (pss_one (ps_asg (pe_op o_sub (pe_call c_take.ok (hr.mono (by decide)) (by rfl) c_take.mg c_take.kp c_take.bd .nil pass0 (pa_cons (pv 0) (pa_cons (pv 8) (pa_cons pe_int pa_nil)))) pe_int) (pg_sub (pv 10) (pe_call c_take.ok (hr.mono (by decide)) (by rfl) c_take.mg c_take.kp c_take.bd .nil pass0 (pa_cons (pv 0) (pa_cons (pv 8) (pa_cons (pe_callB o_len (by rfl) T.n_len (by decide +kernel) (pa_cons (pv 10) pa_nil)) pa_nil)))) set_list))) pss_nil)
  (pss_cons (ps_if (PW.pt (pw_and (pt_cmpR (op_eqD hr.units) (pv 2) pe_int (nomark _)) (pw_and1 (pt_cmpR o_in (pe_ix ix_seq (pv 9) pe_int (fun _ _ => rfl)) (pe_lst (pa_cons pe_str (pa_cons pe_str pa_nil))) rfl)))) (pss_one (ps_expr (pe_bm PySem.F.plainAttrs_list PySem.F.slot_list_append PySem.F.type_list_append mt_append (pv 3) (pa_cons (pv 7) pa_nil)))) pss_nil)
  (pss_cons (ps_expr (pe_bm PySem.F.plainAttrs_list PySem.F.slot_list_append PySem.F.type_list_append mt_append (pv 4) (pa_cons (pe_tup (pa_cons (pe_cmpR (op_eqD hr.units) (pe_call c_take.ok (hr.mono (by decide)) (by rfl) c_take.mg c_take.kp c_take.bd .nil pass0 (pa_cons (pv 0) (pa_cons (pv 8) (pa_cons pe_int pa_nil)))) pe_int (nomark _)) (pa_cons (pe_callTy o_tuple (by rfl) T.n_tuple (by decide +kernel) (pa_cons (pv 6) pa_nil)) (pa_cons (pe_callTy o_tuple (by rfl) T.n_tuple (by decide +kernel) (pa_cons (pv 10) pa_nil)) (pa_cons (pv 9) (pa_cons (pe_tup (pa_cons (pe_op o_add pe_int (pv 7)) (pa_cons (pe_op o_add pe_int (pv 7)) pa_nil))) pa_nil)))))) pa_nil)))
  (pss_one (ps_set (i := 6) sc_events.nd rfl (.inl rfl) (pv 10)))))))))))
  (pss_one (ps_ret (pv 4)))))))
theorem der_asked {f : Addr} (T : Txt K C aS mg) {f_firstHands : Addr} {fd_firstHands : FuncData} (c_firstHands : Cal P w K mg base "first_hands" P_firstHands 2 (sp_firstHands K C) f_firstHands fd_firstHands) {f_clockDue : Addr} {fd_clockDue : FuncData} (c_clockDue : Cal P w K mg base "_law_clock_due" P_clockDue 1 (sp_clockDue K C) f_clockDue fd_clockDue) {f_restDue : Addr} {fd_restDue : FuncData} (c_restDue : Cal P w K mg base "_law_rest_due" P_restDue 1 (sp_restDue K C) f_restDue fd_restDue) {f_lawKind : Addr} {fd_lawKind : FuncData} (c_lawKind : Cal P w K mg base "_law_kind" P_lawKind 1 (sp_lawKind K C) f_lawKind fd_lawKind) {f_eventBounds : Addr} {fd_eventBounds : FuncData} (c_eventBounds : Cal P w K mg base "event_bounds" P_eventBounds 3 (sp_eventBounds K C) f_eventBounds fd_eventBounds) : Der P w K mg base N_asked "_law_asked" st_asked f 3 (t_asked K C) := fun cdv A outer s H E hr =>
  (pss_cons (ps_set (i := 4) sc_asked.nd rfl (.inl rfl) (pe_call c_firstHands.ok (hr.mono (by decide)) (by rfl) c_firstHands.mg c_firstHands.kp c_firstHands.bd .nil pass0 (pa_cons (pv 0) (pa_cons (pv 2) pa_nil))))
  (pss_cons (ps_setLc (i := 5) (own := [("_law_k", 17)]) (g := (gName 17)) (tt := (tTest (tOp (rEqD K) (tOp (rIx K) (tOp (rIx K) (tFld K (tVar 0) "clocks") (tVar 17)) (tC (.int 1))) (tVar 2)))) rfl sc_asked.nd rfl rfl (sw_true rfl rfl rfl (by decide +kernel)) (pi_range1 rfl T.n_range (pa_cons (pe_callB o_len (by rfl) T.n_len (by decide +kernel) (pa_cons (pe_fld (pv 0) rfl) pa_nil)) pa_nil)) (blkOk_by (N := N_asked) (sc := defScope st_asked) (by decide +kernel)) (fun _ _ _ _ _ => (pg_name (i := 17) sc_asked.nd rfl (.inl rfl))) (fun _ _ _ _ _ => (pts_one (pt_cmpR (op_eqD hr.units) (pe_ix ix_seq (pe_ix ix_seq (pe_fld (pv 0) rfl) (pv 17) (fun _ _ => rfl)) pe_int (fun _ _ => rfl)) (pv 2) (nomark _)))) (fun _ _ _ _ _ => (pv 17)))
  (pss_cons (ps_if (pt_cmpR (op_neD hr.units) (pv 4) (pe_lc (own := [("_law_k", 17)]) (g := (gName 17)) (tt := tYes) rfl sc_asked.nd (pi_list (pv 5)) (blkOk_by (N := N_asked) (sc := defScope st_asked) (by decide +kernel)) (fun _ _ _ _ _ => (pg_name (i := 17) sc_asked.nd rfl (.inl rfl))) (fun _ _ _ _ _ => pts_nil) (fun _ _ _ _ _ => (pe_tup (pa_cons pe_non (pa_cons pe_int (pa_cons pe_int pa_nil)))))) (nomark _)) (pss_one (ps_ret pe_bl)) pss_nil)
  (pss_cons (ps_for PassesOwn.never rfl (pi_range2 rfl T.n_range (pa_cons pe_int (pa_cons (pe_callB o_len (by rfl) T.n_len (by decide +kernel) (pa_cons (pe_ix ix_seq (pv 1) (pv 2) (fun _ _ => rfl)) pa_nil)) pa_nil))) (pg_name (i := 6) sc_asked.nd rfl (.inl rfl)) (pss_cons (ps_set (i := 7) sc_asked.nd rfl (.inl rfl) (pe_ix ix_seq (pe_ix ix_seq (pv 1) (pv 2) (fun _ _ => rfl)) (pv 6) (fun _ _ => rfl)))
  (pss_cons (ps_set (i := 8) sc_asked.nd rfl (.inl rfl) (pe_tup (pa_cons (pv 2) (pa_cons (pv 6) (pa_cons (pe_un o_neg pe_int) pa_nil)))))
  (pss_cons (ps_set (i := 9) sc_asked.nd rfl (.inl rfl) (pe_tup (pa_cons pe_str pa_nil)))
  (pss_cons (ps_if (pt_cmpR (op_eqD hr.units) (pe_ix ix_seq (pe_ix ix_seq (pv 7) pe_int (fun _ _ => rfl)) pe_int (fun _ _ => rfl)) pe_str (nomark _)) (pss_one (ps_set (i := 9) sc_asked.nd rfl (.inl rfl) (pe_ix ix_seq (pe_ix ix_seq (pe_ix ix_seq (pv 1) pe_int (fun _ _ => rfl)) (pe_ix ix_seq (pe_ix ix_seq (pv 7) pe_int (fun _ _ => rfl)) pe_int (fun _ _ => rfl)) (fun _ _ => rfl)) pe_int (fun _ _ => rfl)))) pss_nil)
  (pss_cons (ps_set (i := 10) sc_asked.nd rfl (.inl rfl) (pe_lst (pa_cons (pe_tup (pa_cons (pv 8) (pa_cons (pe_tup (pa_cons (pv 2) (pa_cons (pe_op o_sub (pv 6) pe_int) (pa_cons (pe_un o_neg pe_int) pa_nil)))) (pa_cons pe_int (pa_cons (pe_un o_neg pe_int) pa_nil))))) pa_nil)))
  (pss_cons (ps_set (i := 11) sc_asked.nd rfl (.inl rfl) (pe_lst pa_nil))
  (pss_cons (ps_for PassesOwn.never rfl (pi_range1 rfl T.n_range (pa_cons (pe_callB o_len (by rfl) T.n_len (by decide +kernel) (pa_cons (pv 5) pa_nil)) pa_nil)) (pg_name (i := 12) sc_asked.nd rfl (.inl rfl)) (pss_cons (ps_asg (pe_call c_clockDue.ok (hr.mono (by decide)) (by rfl) c_clockDue.mg c_clockDue.kp c_clockDue.bd .nil pass0 (pa_cons (pv 0) (pa_cons (pe_ix ix_seq (pv 4) (pv 12) (fun _ _ => rfl)) (pa_cons (pe_ix ix_seq (pv 5) (pv 12) (fun _ _ => rfl)) (pa_cons (pv 8) (pa_cons (pv 7) (pa_cons (pv 12) pa_nil))))))) (pg_tup rfl (pgs_cons (pg_name (i := 13) sc_asked.nd rfl (.inl rfl)) (pgs_cons (pg_name (i := 14) sc_asked.nd rfl (.inl rfl)) pgs_nil))))
  (pss_cons (ps_set (i := 10) sc_asked.nd rfl (.inl rfl) (pe_op op_cat (pv 10) (pv 13)))
  (pss_one (ps_expr (pe_bm PySem.F.plainAttrs_list PySem.F.slot_list_append PySem.F.type_list_append mt_append (pv 11) (pa_cons (pv 14) pa_nil)))))))
  (pss_cons (ps_set (i := 10) sc_asked.nd rfl (.inl rfl) (pe_op op_cat (pv 10) (pe_call c_restDue.ok (hr.mono (by decide)) (by rfl) c_restDue.mg c_restDue.kp c_restDue.bd .nil pass0 (pa_cons (pv 0) (pa_cons (pv 8) (pa_cons (pv 7) (pa_cons (pv 9) pa_nil)))))))
  (pss_cons (ps_asg (pe_call c_eventBounds.ok (hr.mono (by decide)) (by rfl) c_eventBounds.mg c_eventBounds.kp c_eventBounds.bd .nil pass0 (pa_cons (pv 0) (pa_cons (pe_tup (pa_cons (pv 2) (pa_cons (pv 6) (pa_cons (pv 7) pa_nil)))) (pa_cons (pv 4) (pa_cons (pe_call c_lawKind.ok (hr.mono (by decide)) (by rfl) c_lawKind.mg c_lawKind.kp c_lawKind.bd .nil pass0 (pa_cons (pv 9) pa_nil)) pa_nil))))) (pg_tup rfl (pgs_cons (pg_name (i := 15) sc_asked.nd rfl (.inl rfl)) (pgs_cons (pg_name (i := 4) sc_asked.nd rfl (.inl rfl)) pgs_nil))))
  (pss_cons (ps_if (PW.pt (pw_or (pt_cmpR (op_neD hr.units) (pv 15) (pv 10) (nomark _)) (pw_or1 (pt_cmpR (op_neD hr.units) (pv 4) (pv 11) (nomark _))))) (pss_one (ps_ret pe_bl)) pss_nil)
  (pss_one (ps_for PassesOwn.never rfl (pi_list (pv 10)) (pg_name (i := 16) sc_asked.nd rfl (.inl rfl)) (pss_one (ps_expr (pe_bm PySem.F.plainAttrs_list PySem.F.slot_list_append PySem.F.type_list_append mt_append (pv 3) (pa_cons (pv 16) pa_nil)))))))))))))))))
  (pss_one (ps_ret pe_bl))))))
theorem der_law {f : Addr} (T : Txt K C aS mg) {f_draws : Addr} {fd_draws : FuncData} (c_draws : Cal P w K mg base "_law_draws" P_draws 1 (sp_draws K C) f_draws fd_draws) {f_mkFrame : Addr} {fd_mkFrame : FuncData} (c_mkFrame : Cal P w K mg base "_law_frame" P_mkFrame 3 (sp_mkFrame K C) f_mkFrame fd_mkFrame) {f_events : Addr} {fd_events : FuncData} (c_events : Cal P w K mg base "_law_events" P_events 3 (sp_events K C) f_events fd_events) {f_asked : Addr} {fd_asked : FuncData} (c_asked : Cal P w K mg base "_law_asked" P_asked 4 (sp_asked K C) f_asked fd_asked) {f_viewBounds : Addr} {fd_viewBounds : FuncData} (c_viewBounds : Cal P w K mg base "view_bounds" P_viewBounds 4 (sp_viewBounds K C) f_viewBounds fd_viewBounds) : Der P w K mg base N_law "law" st_law f 4 (t_law K C) := fun cdv A outer s H E hr =>
  (pss_cons (ps_set (i := 1) sc_law.nd rfl (.inl rfl) (pe_call c_draws.ok (hr.mono (by decide)) (by rfl) c_draws.mg c_draws.kp c_draws.bd .nil pass0 (pa_cons (pv 0) (pa_cons pe_int pa_nil))))
  (pss_cons (ps_set (i := 2) sc_law.nd rfl (.inl rfl) (pe_call c_mkFrame.ok (hr.mono (by decide)) (by rfl) c_mkFrame.mg c_mkFrame.kp c_mkFrame.bd .nil pass0 (pa_cons (pv 1) pa_nil)))
  (pss_cons (ps_set (i := 3) sc_law.nd rfl (.inl rfl) (pe_lst pa_nil))
  (pss_cons (ps_set (i := 4) sc_law.nd rfl (.inl rfl) (pe_lst (pa_cons (pe_call c_events.ok (hr.mono (by decide)) (by rfl) c_events.mg c_events.kp c_events.bd .nil pass0 (pa_cons (pv 1) (pa_cons (pv 2) (pa_cons pe_int (pa_cons (pv 3) pa_nil))))) pa_nil)))
  (pss_cons (ps_expr (pe_bm PySem.F.plainAttrs_list PySem.F.slot_list_append PySem.F.type_list_append mt_append (pv 4) (pa_cons (pe_call c_events.ok (hr.mono (by decide)) (by rfl) c_events.mg c_events.kp c_events.bd .nil pass0 (pa_cons (pv 1) (pa_cons (pv 2) (pa_cons pe_int (pa_cons (pv 3) pa_nil))))) pa_nil)))
  (pss_cons (ps_set (i := 5) sc_law.nd rfl (.inl rfl) (pe_lst pa_nil))
  (pss_cons (ps_for PassesOwn.never rfl (pi_range1 rfl T.n_range (pa_cons pe_int pa_nil)) (pg_name (i := 6) sc_law.nd rfl (.inl rfl)) (pss_one (ps_if (pt_not (pt_val (pe_call c_asked.ok (hr.mono (by decide)) (by rfl) c_asked.mg c_asked.kp c_asked.bd .nil pass0 (pa_cons (pv 2) (pa_cons (pv 4) (pa_cons (pv 6) (pa_cons (pv 5) pa_nil))))))) (pss_one (ps_ret pe_bl)) pss_nil)))
  (pss_one (ps_ret (pe_cmpR (op_eqD hr.units) (pe_call c_viewBounds.ok (hr.mono (by decide)) (by rfl) c_viewBounds.mg c_viewBounds.kp c_viewBounds.bd .nil pass0 (pa_cons (pv 2) (pa_cons (pv 4) pa_nil))) (pv 5) (nomark _)))))))))))
end
end W3

/-! ## LayG -/
namespace W3
open PySem L2
section
variable {P : Program} {w : World} {K : Fg} {mg : Str → Option Value} {base : Heap} {C aS : Addr}
theorem ok_within {f : Addr} {fd : FuncData} (T : Txt K C aS mg)  (F : Fun K "within" "within" st_within f fd) : FnOk P w K mg base CX0 1 f fd P_within (sp_within K C) :=
  fnL (n := 0) (t := t_within K C) F sc_within (fun _ => rfl) rfl (der_within T ) fun c a hK hC hp => by
    cases hK
    cases hC
    exact wp_within c a.x a.y a.lo a.hi a.part
theorem ok_toldKind {f : Addr} {fd : FuncData} (T : Txt K C aS mg)  (F : Fun K "told_kind" "told_kind" st_toldKind f fd) : FnOk P w K mg base CX0 1 f fd P_toldKind (sp_toldKind K C) :=
  fnP (n := 0) (t := t_toldKind K C) F sc_toldKind (fun _ => rfl) rfl (der_toldKind T ) fun c a hK hC hp => by
    cases hK
    cases hC
    exact wp_toldKind c a.deed a.clock a.place hp
theorem ok_sentKind {f : Addr} {fd : FuncData} (T : Txt K C aS mg)  (F : Fun K "sent_kind" "sent_kind" st_sentKind f fd) : FnOk P w K mg base CX0 1 f fd P_sentKind (sp_sentKind K C) :=
  fnP (n := 1) (t := t_sentKind K C) F sc_sentKind (fun _ => rfl) rfl (der_sentKind T ) fun c a hK hC hp => by
    cases hK
    cases hC
    exact wp_sentKind c T.cls a.f a.v0 a.v1 a.deed hp
theorem ok_linkPart {f : Addr} {fd : FuncData} (T : Txt K C aS mg)  (F : Fun K "link_part" "Frame.link_part" st_linkPart f fd) : FnOk P w K mg base CX0 1 f fd P_linkPart (sp_linkPart K C) :=
  fnP (n := 0) (t := t_linkPart K C) F sc_linkPart (fun _ => rfl) rfl (der_linkPart T ) fun c a hK hC hp => by
    cases hK
    cases hC
    exact wp_linkPart c T.cls a.f a.n
theorem ok_sourcePart {f : Addr} {fd : FuncData} (T : Txt K C aS mg)  (F : Fun K "source_part" "Frame.source_part" st_sourcePart f fd) : FnOk P w K mg base CX0 1 f fd P_sourcePart (sp_sourcePart K C) :=
  fnP (n := 0) (t := t_sourcePart K C) F sc_sourcePart (fun _ => rfl) rfl (der_sourcePart T ) fun c a hK hC hp => by
    cases hK
    cases hC
    exact wp_sourcePart c T.cls a.f a.n
theorem ok_clocksOf {f : Addr} {fd : FuncData} (T : Txt K C aS mg)  (F : Fun K "clocks_of" "Frame.clocks_of" st_clocksOf f fd) : FnOk P w K mg base CX0 1 f fd P_clocksOf (sp_clocksOf K C) :=
  fnL (n := 2) (t := t_clocksOf K C) F sc_clocksOf (fun _ => rfl) rfl (der_clocksOf T ) fun c a hK hC hp => by
    cases hK
    cases hC
    exact wp_clocksOf c T.cls a.f a.n hp
theorem ok_firstHands {f : Addr} {fd : FuncData} (T : Txt K C aS mg) {f_clocksOf : Addr} {fd_clocksOf : FuncData} (c_clocksOf : CalM P w K C mg base "clocks_of" P_clocksOf 1 (sp_clocksOf K C) f_clocksOf fd_clocksOf) (F : Fun K "first_hands" "first_hands" st_firstHands f fd) : FnOk P w K mg base CX0 2 f fd P_firstHands (sp_firstHands K C) :=
  fnL (n := 1) (t := t_firstHands K C) F sc_firstHands (fun _ => rfl) rfl (der_firstHands T c_clocksOf) fun c a hK hC hp => by
    cases hK
    cases hC
    exact wp_firstHands c a.f a.n hp
theorem ok_handAfter {f : Addr} {fd : FuncData} (T : Txt K C aS mg) {f_toldKind : Addr} {fd_toldKind : FuncData} (c_toldKind : Cal P w K mg base "told_kind" P_toldKind 1 (sp_toldKind K C) f_toldKind fd_toldKind) (F : Fun K "hand_after" "hand_after" st_handAfter f fd) : FnOk P w K mg base CX0 2 f fd P_handAfter (sp_handAfter K C) :=
  fnP (n := 1) (t := t_handAfter K C) F sc_handAfter (fun _ => rfl) rfl (der_handAfter T c_toldKind) fun c a hK hC hp => by
    cases hK
    cases hC
    exact wp_handAfter c a.deed a.clock a.place a.point a.hand a.e a.after hp
theorem ok_clockBounds {f : Addr} {fd : FuncData} (T : Txt K C aS mg) {f_within : Addr} {fd_within : FuncData} (c_within : Cal P w K mg base "within" P_within 1 (sp_within K C) f_within fd_within) (F : Fun K "clock_bounds" "clock_bounds" st_clockBounds f fd) : FnOk P w K mg base CX0 2 f fd P_clockBounds (sp_clockBounds K C) :=
  fnP (n := 8) (t := t_clockBounds K C) F sc_clockBounds (fun _ => rfl) rfl (der_clockBounds T c_within) fun c a hK hC hp => by
    cases hK
    cases hC
    exact wp_clockBounds c a.lo a.hi a.part a.h a.st a.tick a.ev a.before a.shown hp
theorem ok_deedBounds {f : Addr} {fd : FuncData} (T : Txt K C aS mg) {f_sourcePart : Addr} {fd_sourcePart : FuncData} (c_sourcePart : CalM P w K C mg base "source_part" P_sourcePart 1 (sp_sourcePart K C) f_sourcePart fd_sourcePart) {f_within : Addr} {fd_within : FuncData} (c_within : Cal P w K mg base "within" P_within 1 (sp_within K C) f_within fd_within) {f_linkPart : Addr} {fd_linkPart : FuncData} (c_linkPart : CalM P w K C mg base "link_part" P_linkPart 1 (sp_linkPart K C) f_linkPart fd_linkPart) (F : Fun K "deed_bounds" "deed_bounds" st_deedBounds f fd) : FnOk P w K mg base CX0 2 f fd P_deedBounds (sp_deedBounds K C) :=
  fnL (n := 8) (t := t_deedBounds K C aS) F sc_deedBounds (fun _ => rfl) rfl (der_deedBounds T c_sourcePart c_within c_linkPart) fun c a hK hC hp => by
    cases hK
    cases hC
    exact wp_deedBounds c T.cls aS T.hS a.f a.here a.deed a.kind hp
theorem ok_eventBounds {f : Addr} {fd : FuncData} (T : Txt K C aS mg) {f_clocksOf : Addr} {fd_clocksOf : FuncData} (c_clocksOf : CalM P w K C mg base "clocks_of" P_clocksOf 1 (sp_clocksOf K C) f_clocksOf fd_clocksOf) {f_clockBounds : Addr} {fd_clockBounds : FuncData} (c_clockBounds : Cal P w K mg base "clock_bounds" P_clockBounds 2 (sp_clockBounds K C) f_clockBounds fd_clockBounds) {f_handAfter : Addr} {fd_handAfter : FuncData} (c_handAfter : Cal P w K mg base "hand_after" P_handAfter 2 (sp_handAfter K C) f_handAfter fd_handAfter) {f_deedBounds : Addr} {fd_deedBounds : FuncData} (c_deedBounds : Cal P w K mg base "deed_bounds" P_deedBounds 2 (sp_deedBounds K C) f_deedBounds fd_deedBounds) (F : Fun K "event_bounds" "event_bounds" st_eventBounds f fd) : FnOk P w K mg base CX0 3 f fd P_eventBounds (sp_eventBounds K C) :=
  fnP (n := 22) (t := t_eventBounds K C) F sc_eventBounds (fun _ => rfl) rfl (der_eventBounds T c_clocksOf c_clockBounds c_handAfter c_deedBounds) fun c a hK hC hp => by
    cases hK
    cases hC
    exact wp_eventBounds c T.cls a.f a.dev a.n a.e a.hands a.kind hp
theorem ok_viewBounds {f : Addr} {fd : FuncData} (T : Txt K C aS mg) {f_firstHands : Addr} {fd_firstHands : FuncData} (c_firstHands : Cal P w K mg base "first_hands" P_firstHands 2 (sp_firstHands K C) f_firstHands fd_firstHands) {f_sentKind : Addr} {fd_sentKind : FuncData} (c_sentKind : Cal P w K mg base "sent_kind" P_sentKind 1 (sp_sentKind K C) f_sentKind fd_sentKind) {f_eventBounds : Addr} {fd_eventBounds : FuncData} (c_eventBounds : Cal P w K mg base "event_bounds" P_eventBounds 3 (sp_eventBounds K C) f_eventBounds fd_eventBounds) (F : Fun K "view_bounds" "view_bounds" st_viewBounds f fd) : FnOk P w K mg base CX0 4 f fd P_viewBounds (sp_viewBounds K C) :=
  fnP (n := 8) (t := t_viewBounds K C) F sc_viewBounds (fun _ => rfl) rfl (der_viewBounds T c_firstHands c_sentKind c_eventBounds) fun c a hK hC hp => by
    cases hK
    cases hC
    exact wp_viewBounds c a.f a.v0 a.v1 hp
theorem ok_lawKind {f : Addr} {fd : FuncData} (T : Txt K C aS mg)  (F : Fun K "_law_kind" "_law_kind" st_lawKind f fd) : FnOk P w K mg base CX0 1 f fd P_lawKind (sp_lawKind K C) :=
  fnP (n := 0) (t := t_lawKind K C) F sc_lawKind (fun _ => rfl) rfl (der_lawKind T ) fun c a hK hC hp => by
    cases hK
    cases hC
    exact wp_lawKind c a
theorem ok_restDue {f : Addr} {fd : FuncData} (T : Txt K C aS mg)  (F : Fun K "_law_rest_due" "_law_rest_due" st_restDue f fd) : FnOk P w K mg base CX0 1 f fd P_restDue (sp_restDue K C) :=
  fnL (n := 5) (t := t_restDue K C) F sc_restDue (fun _ => rfl) rfl (der_restDue T ) fun c a hK hC hp => by
    cases hK
    cases hC
    exact wp_restDue c T.cls a.f a.here a.e a.word hp
theorem ok_clockDue {f : Addr} {fd : FuncData} (T : Txt K C aS mg)  (F : Fun K "_law_clock_due" "_law_clock_due" st_clockDue f fd) : FnOk P w K mg base CX0 1 f fd P_clockDue (sp_clockDue K C) :=
  fnP (n := 9) (t := t_clockDue K C) F sc_clockDue (fun _ => rfl) rfl (der_clockDue T ) fun c a hK hC hp => by
    cases hK
    cases hC
    exact wp_clockDue c T.cls a.f a.h a.c a.dev a.n a.e a.place hp
theorem ok_take {f : Addr} {fd : FuncData} (T : Txt K C aS mg)  (F : Fun K "_law_take" "_law_take" st_take f fd) : FnOk P w K mg base CX0 1 f fd P_take (sp_take K C) :=
  fnE (n := 1) (t := t_take K C) F sc_take (fun _ => rfl) rfl (der_take T ) fun c a hK hC hM hp => by
    cases hK
    cases hC
    exact wp_take c a.p a.at_ a.many hp
theorem ok_draws {f : Addr} {fd : FuncData} (T : Txt K C aS mg)  (F : Fun K "_law_draws" "_law_draws" st_draws f fd) : FnOk P w K mg base CX0 1 f fd P_draws (sp_draws K C) :=
  fnE (n := 3) (t := t_draws K C) F sc_draws (fun _ => rfl) rfl (der_draws T ) fun c a hK hC hM hp => by
    cases hK
    cases hC
    exact wp_draws c a hp
theorem ok_init {f : Addr} {fd : FuncData} (T : Txt K C aS mg)  (F : Fun K "__init__" "Frame.__init__" st_init f fd) : FnOk P w K mg base CX0 1 f fd P_init (sp_init K C) :=
  F.ok sc_init (fun vs H Q E h => by
    obtain ⟨G, x, dx, vd, vc, vl, vs', vf, dd, cc, ll, ss, rfl, _⟩ := h
    rfl) fun cdv A outer s H vs Q E hr h => ⟨_, der_init T cdv A outer s H E hr, wp_init T.cls _ vs H Q E h⟩
theorem ok_mkFrame {f : Addr} {fd : FuncData} (T : Txt K C aS mg) {f_take : Addr} {fd_take : FuncData} (c_take : Cal P w K mg base "_law_take" P_take 1 (sp_take K C) f_take fd_take) {f_init : Addr} {fd_init : FuncData} (c_init : CalI P w K C mg base P_init 1 (sp_init K C) f_init fd_init) (F : Fun K "_law_frame" "_law_frame" st_mkFrame f fd) : FnOk P w K mg base CX0 3 f fd P_mkFrame (sp_mkFrame K C) :=
  fnE (n := 10) (t := t_mkFrame K C) F sc_mkFrame (fun _ => rfl) rfl (der_mkFrame T c_take c_init) fun c a hK hC hM hp => by
    cases hK
    cases hC
    exact wp_mkFrame c a
theorem ok_deed {f : Addr} {fd : FuncData} (T : Txt K C aS mg) {f_take : Addr} {fd_take : FuncData} (c_take : Cal P w K mg base "_law_take" P_take 1 (sp_take K C) f_take fd_take) (F : Fun K "_law_deed" "_law_deed" st_deed f fd) : FnOk P w K mg base CX0 2 f fd P_deed (sp_deed K C) :=
  fnE (n := 4) (t := t_deed K C) F sc_deed (fun _ => rfl) rfl (der_deed T c_take) fun c a hK hC hM hp => by
    cases hK
    cases hC
    exact wp_deed c T.cls a.p a.at_ a.f a.dev a.q a.words hp
theorem ok_events {f : Addr} {fd : FuncData} (T : Txt K C aS mg) {f_take : Addr} {fd_take : FuncData} (c_take : Cal P w K mg base "_law_take" P_take 1 (sp_take K C) f_take fd_take) {f_deed : Addr} {fd_deed : FuncData} (c_deed : Cal P w K mg base "_law_deed" P_deed 2 (sp_deed K C) f_deed fd_deed) (F : Fun K "_law_events" "_law_events" st_events f fd) : FnOk P w K mg base CX0 3 f fd P_events (sp_events K C) :=
  fnE (n := 9) (t := t_events K C) F sc_events (fun _ => rfl) rfl (der_events T c_take c_deed) fun c a hK hC hM hp => by
    cases hK
    cases hC
    exact wp_events c T.cls a.p a.f a.dev a.q a.words hp
theorem ok_asked {f : Addr} {fd : FuncData} (T : Txt K C aS mg) {f_firstHands : Addr} {fd_firstHands : FuncData} (c_firstHands : Cal P w K mg base "first_hands" P_firstHands 2 (sp_firstHands K C) f_firstHands fd_firstHands) {f_clockDue : Addr} {fd_clockDue : FuncData} (c_clockDue : Cal P w K mg base "_law_clock_due" P_clockDue 1 (sp_clockDue K C) f_clockDue fd_clockDue) {f_restDue : Addr} {fd_restDue : FuncData} (c_restDue : Cal P w K mg base "_law_rest_due" P_restDue 1 (sp_restDue K C) f_restDue fd_restDue) {f_lawKind : Addr} {fd_lawKind : FuncData} (c_lawKind : Cal P w K mg base "_law_kind" P_lawKind 1 (sp_lawKind K C) f_lawKind fd_lawKind) {f_eventBounds : Addr} {fd_eventBounds : FuncData} (c_eventBounds : Cal P w K mg base "event_bounds" P_eventBounds 3 (sp_eventBounds K C) f_eventBounds fd_eventBounds) (F : Fun K "_law_asked" "_law_asked" st_asked f fd) : FnOk P w K mg base CX0 4 f fd P_asked (sp_asked K C) :=
  fnE (n := 14) (t := t_asked K C) F sc_asked (fun _ => rfl) rfl (der_asked T c_firstHands c_clockDue c_restDue c_lawKind c_eventBounds) fun c a hK hC hM hp => by
    cases hK
    cases hC
    exact wp_asked c T.cls a.f a.v0 a.v1 a.dev a.q a.due hp
theorem ok_law {f : Addr} {fd : FuncData} (T : Txt K C aS mg) {f_draws : Addr} {fd_draws : FuncData} (c_draws : Cal P w K mg base "_law_draws" P_draws 1 (sp_draws K C) f_draws fd_draws) {f_mkFrame : Addr} {fd_mkFrame : FuncData} (c_mkFrame : Cal P w K mg base "_law_frame" P_mkFrame 3 (sp_mkFrame K C) f_mkFrame fd_mkFrame) {f_events : Addr} {fd_events : FuncData} (c_events : Cal P w K mg base "_law_events" P_events 3 (sp_events K C) f_events fd_events) {f_asked : Addr} {fd_asked : FuncData} (c_asked : Cal P w K mg base "_law_asked" P_asked 4 (sp_asked K C) f_asked fd_asked) {f_viewBounds : Addr} {fd_viewBounds : FuncData} (c_viewBounds : Cal P w K mg base "view_bounds" P_viewBounds 4 (sp_viewBounds K C) f_viewBounds fd_viewBounds) (F : Fun K "law" "law" st_law f fd) : FnOk P w K mg base CX0 5 f fd P_law (sp_law K C) :=
  fnE (n := 6) (t := t_law K C) F sc_law (fun _ => rfl) rfl (der_law T c_draws c_mkFrame c_events c_asked c_viewBounds) fun c a hK hC hM hp => by
    cases hK
    cases hC
    exact wp_law c (fun b z => by rw [hM] at z; exact z) a hp
end
end W3

/-! ## LayH -/
namespace W3
open PySem L2
/-! ### the head: facts by names -/
def d_within : He.FnD := ⟨("within", none), "within", "within", defArgs st_within, defBody st_within, defScope st_within⟩
def d_toldKind : He.FnD := ⟨("told_kind", none), "told_kind", "told_kind", defArgs st_toldKind, defBody st_toldKind, defScope st_toldKind⟩
def d_sentKind : He.FnD := ⟨("sent_kind", none), "sent_kind", "sent_kind", defArgs st_sentKind, defBody st_sentKind, defScope st_sentKind⟩
def d_linkPart : He.FnD := ⟨("Frame", some "link_part"), "link_part", "Frame.link_part", defArgs st_linkPart, defBody st_linkPart, defScope st_linkPart⟩
def d_sourcePart : He.FnD := ⟨("Frame", some "source_part"), "source_part", "Frame.source_part", defArgs st_sourcePart, defBody st_sourcePart, defScope st_sourcePart⟩
def d_clocksOf : He.FnD := ⟨("Frame", some "clocks_of"), "clocks_of", "Frame.clocks_of", defArgs st_clocksOf, defBody st_clocksOf, defScope st_clocksOf⟩
def d_firstHands : He.FnD := ⟨("first_hands", none), "first_hands", "first_hands", defArgs st_firstHands, defBody st_firstHands, defScope st_firstHands⟩
def d_handAfter : He.FnD := ⟨("hand_after", none), "hand_after", "hand_after", defArgs st_handAfter, defBody st_handAfter, defScope st_handAfter⟩
def d_clockBounds : He.FnD := ⟨("clock_bounds", none), "clock_bounds", "clock_bounds", defArgs st_clockBounds, defBody st_clockBounds, defScope st_clockBounds⟩
def d_deedBounds : He.FnD := ⟨("deed_bounds", none), "deed_bounds", "deed_bounds", defArgs st_deedBounds, defBody st_deedBounds, defScope st_deedBounds⟩
def d_eventBounds : He.FnD := ⟨("event_bounds", none), "event_bounds", "event_bounds", defArgs st_eventBounds, defBody st_eventBounds, defScope st_eventBounds⟩
def d_viewBounds : He.FnD := ⟨("view_bounds", none), "view_bounds", "view_bounds", defArgs st_viewBounds, defBody st_viewBounds, defScope st_viewBounds⟩
def d_lawKind : He.FnD := ⟨("_law_kind", none), "_law_kind", "_law_kind", defArgs st_lawKind, defBody st_lawKind, defScope st_lawKind⟩
def d_restDue : He.FnD := ⟨("_law_rest_due", none), "_law_rest_due", "_law_rest_due", defArgs st_restDue, defBody st_restDue, defScope st_restDue⟩
def d_clockDue : He.FnD := ⟨("_law_clock_due", none), "_law_clock_due", "_law_clock_due", defArgs st_clockDue, defBody st_clockDue, defScope st_clockDue⟩
def d_take : He.FnD := ⟨("_law_take", none), "_law_take", "_law_take", defArgs st_take, defBody st_take, defScope st_take⟩
def d_draws : He.FnD := ⟨("_law_draws", none), "_law_draws", "_law_draws", defArgs st_draws, defBody st_draws, defScope st_draws⟩
def d_init : He.FnD := ⟨("Frame", some "__init__"), "__init__", "Frame.__init__", defArgs st_init, defBody st_init, defScope st_init⟩
def d_mkFrame : He.FnD := ⟨("_law_frame", none), "_law_frame", "_law_frame", defArgs st_mkFrame, defBody st_mkFrame, defScope st_mkFrame⟩
def d_deed : He.FnD := ⟨("_law_deed", none), "_law_deed", "_law_deed", defArgs st_deed, defBody st_deed, defScope st_deed⟩
def d_events : He.FnD := ⟨("_law_events", none), "_law_events", "_law_events", defArgs st_events, defBody st_events, defScope st_events⟩
def d_asked : He.FnD := ⟨("_law_asked", none), "_law_asked", "_law_asked", defArgs st_asked, defBody st_asked, defScope st_asked⟩
def d_law : He.FnD := ⟨("law", none), "law", "law", defArgs st_law, defBody st_law, defScope st_law⟩
def fnsA : List He.FnD := [d_within, d_toldKind, d_sentKind, d_linkPart, d_sourcePart, d_clocksOf, d_firstHands, d_handAfter, d_clockBounds, d_deedBounds, d_eventBounds, d_viewBounds, d_lawKind, d_restDue, d_clockDue, d_take, d_draws, d_init, d_mkFrame, d_deed, d_events, d_asked, d_law]
def fasA : List He.Fa := [.glo "within", .keep "within", .glo "told_kind", .keep "told_kind", .glo "sent_kind", .keep "sent_kind", .meth "Frame" "link_part", .meth "Frame" "source_part", .meth "Frame" "clocks_of", .glo "first_hands", .keep "first_hands", .glo "hand_after", .keep "hand_after", .glo "clock_bounds", .keep "clock_bounds", .glo "deed_bounds", .keep "deed_bounds", .glo "event_bounds", .keep "event_bounds", .glo "view_bounds", .keep "view_bounds", .glo "_law_kind", .keep "_law_kind", .glo "_law_rest_due", .keep "_law_rest_due", .glo "_law_clock_due", .keep "_law_clock_due", .glo "_law_take", .keep "_law_take", .glo "_law_draws", .keep "_law_draws", .meth "Frame" "__init__", .glo "_law_frame", .keep "_law_frame", .glo "_law_deed", .keep "_law_deed", .glo "_law_events", .keep "_law_events", .glo "_law_asked", .keep "_law_asked", .glo "law", .keep "law", .glo "START", .glo "Frame", .mkr "Frame", .cls "Frame", .noat "Frame" "devices", .noat "Frame" "clocks", .noat "Frame" "links", .noat "Frame" "sources", .noat "Frame" "faults", .free "len", .free "int", .free "str", .free "list", .free "tuple", .free "range", .free "enumerate"]
def obs3 (K : Fg) : Bool × He.Al := (He.tupB K "START" [.int (-1), .int 0, .int (-1)], He.obsE fasA fnsA K)
def val3 : Bool × He.Al := (true, He.valE fnsA)
def hk3 : PySem.W.Hook where
  α := Bool × He.Al
  obs := fun s => obs3 (He.frG s.heap.get? (He.asG s.heap.get? 5))
  val := fun _ => val3
  says := fun _ h => ∃ K : Fg, K.In h ∧ obs3 K = val3
  of := fun _ _ e => ⟨_, He.frG_in, e⟩
  keeps := fun _ _ _ ⟨K, hK, c⟩ k => ⟨K, PySem.W.Frag.In.keeps hK k, c⟩
def ob3 (s : PySem.W.SharedT) : Bool × He.Al := obs3 (He.frG (HandSHeadRun.getT s) (He.asG (HandSHeadRun.getT s) 5))
theorem ob3_eq (s : PySem.W.SharedT) : ob3 s = hk3.obs s.abs := by
  have e : HandSHeadRun.getT s = s.abs.heap.get? := funext (HandSHeadRun.getT_eq s)
  unfold ob3
  rw [e]
  rfl
theorem facts {P : Program} {w : World} {K : Fg} {h : Heap} {mg : Str → Option Value} {f : Addr} (X : K.In h) (G : h.Ns mainGlobals mg) (hfa : mg ("law" : Str) = some (.ref f)) (c0 : obs3 K = val3) :
    ∃ fd : FuncData, (∀ (s : Shared) (v : Value), BindsTo s fd ⟨[v], []⟩ [("_law_script", v)]) ∧ ∀ base : Heap, K.In base → base.Ns mainGlobals mg → FnOk P w K mg base CX0 5 f fd P_law (sp_law K (He.ga K "Frame")) := by
  have c1 : He.tupB K "START" [.int (-1), .int 0, .int (-1)] = true := congrArg Prod.fst c0
  have c2 : He.SaysE fasA fnsA K := congrArg Prod.snd c0
  obtain ⟨oc_within, od_within, osl_within, kV_within, doc_within, pm_within, an_within, cdv_within, ct_within, l_within, e_within⟩ := c2.def_ 0 (d := d_within) rfl
  have F_within := fun_mk (st := st_within) l_within e_within (He.keep_ok (c2.fact 1 (f := .keep "within") rfl))
  have b_within := F_within.binds (ps := P_within) fun _ _ _ _ _ _ us hl => match us, hl with | [_, _, _, _, _], _ => rfl
  obtain ⟨oc_toldKind, od_toldKind, osl_toldKind, kV_toldKind, doc_toldKind, pm_toldKind, an_toldKind, cdv_toldKind, ct_toldKind, l_toldKind, e_toldKind⟩ := c2.def_ 1 (d := d_toldKind) rfl
  have F_toldKind := fun_mk (st := st_toldKind) l_toldKind e_toldKind (He.keep_ok (c2.fact 3 (f := .keep "told_kind") rfl))
  have b_toldKind := F_toldKind.binds (ps := P_toldKind) fun _ _ _ _ _ _ us hl => match us, hl with | [_, _, _], _ => rfl
  obtain ⟨oc_sentKind, od_sentKind, osl_sentKind, kV_sentKind, doc_sentKind, pm_sentKind, an_sentKind, cdv_sentKind, ct_sentKind, l_sentKind, e_sentKind⟩ := c2.def_ 2 (d := d_sentKind) rfl
  have F_sentKind := fun_mk (st := st_sentKind) l_sentKind e_sentKind (He.keep_ok (c2.fact 5 (f := .keep "sent_kind") rfl))
  have b_sentKind := F_sentKind.binds (ps := P_sentKind) fun _ _ _ _ _ _ us hl => match us, hl with | [_, _, _], _ => rfl
  obtain ⟨oc_linkPart, od_linkPart, osl_linkPart, kV_linkPart, doc_linkPart, pm_linkPart, an_linkPart, cdv_linkPart, ct_linkPart, l_linkPart, e_linkPart⟩ := c2.def_ 3 (d := d_linkPart) rfl
  have F_linkPart := fun_mk (st := st_linkPart) l_linkPart e_linkPart (He.meth_ok (c2.fact 6 (f := .meth "Frame" "link_part") rfl)).kp
  have b_linkPart := F_linkPart.binds (ps := P_linkPart) fun _ _ _ _ _ _ us hl => match us, hl with | [_, _], _ => rfl
  obtain ⟨oc_sourcePart, od_sourcePart, osl_sourcePart, kV_sourcePart, doc_sourcePart, pm_sourcePart, an_sourcePart, cdv_sourcePart, ct_sourcePart, l_sourcePart, e_sourcePart⟩ := c2.def_ 4 (d := d_sourcePart) rfl
  have F_sourcePart := fun_mk (st := st_sourcePart) l_sourcePart e_sourcePart (He.meth_ok (c2.fact 7 (f := .meth "Frame" "source_part") rfl)).kp
  have b_sourcePart := F_sourcePart.binds (ps := P_sourcePart) fun _ _ _ _ _ _ us hl => match us, hl with | [_, _], _ => rfl
  obtain ⟨oc_clocksOf, od_clocksOf, osl_clocksOf, kV_clocksOf, doc_clocksOf, pm_clocksOf, an_clocksOf, cdv_clocksOf, ct_clocksOf, l_clocksOf, e_clocksOf⟩ := c2.def_ 5 (d := d_clocksOf) rfl
  have F_clocksOf := fun_mk (st := st_clocksOf) l_clocksOf e_clocksOf (He.meth_ok (c2.fact 8 (f := .meth "Frame" "clocks_of") rfl)).kp
  have b_clocksOf := F_clocksOf.binds (ps := P_clocksOf) fun _ _ _ _ _ _ us hl => match us, hl with | [_, _], _ => rfl
  obtain ⟨oc_firstHands, od_firstHands, osl_firstHands, kV_firstHands, doc_firstHands, pm_firstHands, an_firstHands, cdv_firstHands, ct_firstHands, l_firstHands, e_firstHands⟩ := c2.def_ 6 (d := d_firstHands) rfl
  have F_firstHands := fun_mk (st := st_firstHands) l_firstHands e_firstHands (He.keep_ok (c2.fact 10 (f := .keep "first_hands") rfl))
  have b_firstHands := F_firstHands.binds (ps := P_firstHands) fun _ _ _ _ _ _ us hl => match us, hl with | [_, _], _ => rfl
  obtain ⟨oc_handAfter, od_handAfter, osl_handAfter, kV_handAfter, doc_handAfter, pm_handAfter, an_handAfter, cdv_handAfter, ct_handAfter, l_handAfter, e_handAfter⟩ := c2.def_ 7 (d := d_handAfter) rfl
  have F_handAfter := fun_mk (st := st_handAfter) l_handAfter e_handAfter (He.keep_ok (c2.fact 12 (f := .keep "hand_after") rfl))
  have b_handAfter := F_handAfter.binds (ps := P_handAfter) fun _ _ _ _ _ _ us hl => match us, hl with | [_, _, _, _, _, _, _], _ => rfl
  obtain ⟨oc_clockBounds, od_clockBounds, osl_clockBounds, kV_clockBounds, doc_clockBounds, pm_clockBounds, an_clockBounds, cdv_clockBounds, ct_clockBounds, l_clockBounds, e_clockBounds⟩ := c2.def_ 8 (d := d_clockBounds) rfl
  have F_clockBounds := fun_mk (st := st_clockBounds) l_clockBounds e_clockBounds (He.keep_ok (c2.fact 14 (f := .keep "clock_bounds") rfl))
  have b_clockBounds := F_clockBounds.binds (ps := P_clockBounds) fun _ _ _ _ _ _ us hl => match us, hl with | [_, _, _, _, _, _, _], _ => rfl
  obtain ⟨oc_deedBounds, od_deedBounds, osl_deedBounds, kV_deedBounds, doc_deedBounds, pm_deedBounds, an_deedBounds, cdv_deedBounds, ct_deedBounds, l_deedBounds, e_deedBounds⟩ := c2.def_ 9 (d := d_deedBounds) rfl
  have F_deedBounds := fun_mk (st := st_deedBounds) l_deedBounds e_deedBounds (He.keep_ok (c2.fact 16 (f := .keep "deed_bounds") rfl))
  have b_deedBounds := F_deedBounds.binds (ps := P_deedBounds) fun _ _ _ _ _ _ us hl => match us, hl with | [_, _, _, _], _ => rfl
  obtain ⟨oc_eventBounds, od_eventBounds, osl_eventBounds, kV_eventBounds, doc_eventBounds, pm_eventBounds, an_eventBounds, cdv_eventBounds, ct_eventBounds, l_eventBounds, e_eventBounds⟩ := c2.def_ 10 (d := d_eventBounds) rfl
  have F_eventBounds := fun_mk (st := st_eventBounds) l_eventBounds e_eventBounds (He.keep_ok (c2.fact 18 (f := .keep "event_bounds") rfl))
  have b_eventBounds := F_eventBounds.binds (ps := P_eventBounds) fun _ _ _ _ _ _ us hl => match us, hl with | [_, _, _, _], _ => rfl
  obtain ⟨oc_viewBounds, od_viewBounds, osl_viewBounds, kV_viewBounds, doc_viewBounds, pm_viewBounds, an_viewBounds, cdv_viewBounds, ct_viewBounds, l_viewBounds, e_viewBounds⟩ := c2.def_ 11 (d := d_viewBounds) rfl
  have F_viewBounds := fun_mk (st := st_viewBounds) l_viewBounds e_viewBounds (He.keep_ok (c2.fact 20 (f := .keep "view_bounds") rfl))
  have b_viewBounds := F_viewBounds.binds (ps := P_viewBounds) fun _ _ _ _ _ _ us hl => match us, hl with | [_, _], _ => rfl
  obtain ⟨oc_lawKind, od_lawKind, osl_lawKind, kV_lawKind, doc_lawKind, pm_lawKind, an_lawKind, cdv_lawKind, ct_lawKind, l_lawKind, e_lawKind⟩ := c2.def_ 12 (d := d_lawKind) rfl
  have F_lawKind := fun_mk (st := st_lawKind) l_lawKind e_lawKind (He.keep_ok (c2.fact 22 (f := .keep "_law_kind") rfl))
  have b_lawKind := F_lawKind.binds (ps := P_lawKind) fun _ _ _ _ _ _ us hl => match us, hl with | [_], _ => rfl
  obtain ⟨oc_restDue, od_restDue, osl_restDue, kV_restDue, doc_restDue, pm_restDue, an_restDue, cdv_restDue, ct_restDue, l_restDue, e_restDue⟩ := c2.def_ 13 (d := d_restDue) rfl
  have F_restDue := fun_mk (st := st_restDue) l_restDue e_restDue (He.keep_ok (c2.fact 24 (f := .keep "_law_rest_due") rfl))
  have b_restDue := F_restDue.binds (ps := P_restDue) fun _ _ _ _ _ _ us hl => match us, hl with | [_, _, _, _], _ => rfl
  obtain ⟨oc_clockDue, od_clockDue, osl_clockDue, kV_clockDue, doc_clockDue, pm_clockDue, an_clockDue, cdv_clockDue, ct_clockDue, l_clockDue, e_clockDue⟩ := c2.def_ 14 (d := d_clockDue) rfl
  have F_clockDue := fun_mk (st := st_clockDue) l_clockDue e_clockDue (He.keep_ok (c2.fact 26 (f := .keep "_law_clock_due") rfl))
  have b_clockDue := F_clockDue.binds (ps := P_clockDue) fun _ _ _ _ _ _ us hl => match us, hl with | [_, _, _, _, _, _], _ => rfl
  obtain ⟨oc_take, od_take, osl_take, kV_take, doc_take, pm_take, an_take, cdv_take, ct_take, l_take, e_take⟩ := c2.def_ 15 (d := d_take) rfl
  have F_take := fun_mk (st := st_take) l_take e_take (He.keep_ok (c2.fact 28 (f := .keep "_law_take") rfl))
  have b_take := F_take.binds (ps := P_take) fun _ _ _ _ _ _ us hl => match us, hl with | [_, _, _], _ => rfl
  obtain ⟨oc_draws, od_draws, osl_draws, kV_draws, doc_draws, pm_draws, an_draws, cdv_draws, ct_draws, l_draws, e_draws⟩ := c2.def_ 16 (d := d_draws) rfl
  have F_draws := fun_mk (st := st_draws) l_draws e_draws (He.keep_ok (c2.fact 30 (f := .keep "_law_draws") rfl))
  have b_draws := F_draws.binds (ps := P_draws) fun _ _ _ _ _ _ us hl => match us, hl with | [_, _], _ => rfl
  obtain ⟨oc_init, od_init, osl_init, kV_init, doc_init, pm_init, an_init, cdv_init, ct_init, l_init, e_init⟩ := c2.def_ 17 (d := d_init) rfl
  have F_init := fun_mk (st := st_init) l_init e_init (He.meth_ok (c2.fact 31 (f := .meth "Frame" "__init__") rfl)).kp
  have b_init := F_init.binds (ps := P_init) fun _ _ _ _ _ _ us hl => match us, hl with | [_, _, _, _, _, _], _ => rfl
  obtain ⟨oc_mkFrame, od_mkFrame, osl_mkFrame, kV_mkFrame, doc_mkFrame, pm_mkFrame, an_mkFrame, cdv_mkFrame, ct_mkFrame, l_mkFrame, e_mkFrame⟩ := c2.def_ 18 (d := d_mkFrame) rfl
  have F_mkFrame := fun_mk (st := st_mkFrame) l_mkFrame e_mkFrame (He.keep_ok (c2.fact 33 (f := .keep "_law_frame") rfl))
  have b_mkFrame := F_mkFrame.binds (ps := P_mkFrame) fun _ _ _ _ _ _ us hl => match us, hl with | [_], _ => rfl
  obtain ⟨oc_deed, od_deed, osl_deed, kV_deed, doc_deed, pm_deed, an_deed, cdv_deed, ct_deed, l_deed, e_deed⟩ := c2.def_ 19 (d := d_deed) rfl
  have F_deed := fun_mk (st := st_deed) l_deed e_deed (He.keep_ok (c2.fact 35 (f := .keep "_law_deed") rfl))
  have b_deed := F_deed.binds (ps := P_deed) fun _ _ _ _ _ _ us hl => match us, hl with | [_, _, _, _, _], _ => rfl
  obtain ⟨oc_events, od_events, osl_events, kV_events, doc_events, pm_events, an_events, cdv_events, ct_events, l_events, e_events⟩ := c2.def_ 20 (d := d_events) rfl
  have F_events := fun_mk (st := st_events) l_events e_events (He.keep_ok (c2.fact 37 (f := .keep "_law_events") rfl))
  have b_events := F_events.binds (ps := P_events) fun _ _ _ _ _ _ us hl => match us, hl with | [_, _, _, _], _ => rfl
  obtain ⟨oc_asked, od_asked, osl_asked, kV_asked, doc_asked, pm_asked, an_asked, cdv_asked, ct_asked, l_asked, e_asked⟩ := c2.def_ 21 (d := d_asked) rfl
  have F_asked := fun_mk (st := st_asked) l_asked e_asked (He.keep_ok (c2.fact 39 (f := .keep "_law_asked") rfl))
  have b_asked := F_asked.binds (ps := P_asked) fun _ _ _ _ _ _ us hl => match us, hl with | [_, _, _, _], _ => rfl
  obtain ⟨oc_law, od_law, osl_law, kV_law, doc_law, pm_law, an_law, cdv_law, ct_law, l_law, e_law⟩ := c2.def_ 22 (d := d_law) rfl
  have F_law := fun_mk (st := st_law) l_law e_law (He.keep_ok (c2.fact 41 (f := .keep "law") rfl))
  have b_law := F_law.binds (ps := P_law) fun _ _ _ _ _ _ us hl => match us, hl with | [_], _ => rfl
  have e := hfa.symm.trans (He.glo_ok X G (c2.fact 40 (f := .glo "law") rfl))
  cases e
  have T : Txt K (He.ga K "Frame") (He.ga K "START") mg := by
    refine ⟨⟨He.cls_ok (c2.fact 45 (f := .cls "Frame") rfl), He.noat_ok (c2.fact 46 (f := .noat "Frame" "devices") rfl), He.noat_ok (c2.fact 47 (f := .noat "Frame" "clocks") rfl), He.noat_ok (c2.fact 48 (f := .noat "Frame" "links") rfl), He.noat_ok (c2.fact 49 (f := .noat "Frame" "sources") rfl), He.noat_ok (c2.fact 50 (f := .noat "Frame" "faults") rfl)⟩, He.glo_ok X G (c2.fact 42 (f := .glo "START") rfl), fun G' => ?_, He.glo_ok X G (c2.fact 43 (f := .glo "Frame") rfl), He.free_ok X G (c2.fact 51 (f := .free "len") rfl), He.free_ok X G (c2.fact 52 (f := .free "int") rfl), He.free_ok X G (c2.fact 53 (f := .free "str") rfl), He.free_ok X G (c2.fact 54 (f := .free "list") rfl), He.free_ok X G (c2.fact 55 (f := .free "tuple") rfl), He.free_ok X G (c2.fact 56 (f := .free "range") rfl), He.free_ok X G (c2.fact 57 (f := .free "enumerate") rfl)⟩
    exact .tup (He.tupB_ok c1 G') (.cons (.int _) (.cons (.int _) (.cons (.int _) .nil)))
  refine ⟨PySem.W.fnOf "law" "law" (defArgs st_law) (defBody st_law) (defScope st_law) .none kV_law doc_law pm_law an_law cdv_law ct_law, fun s v => .of_eq rfl, fun base _ _ => ?_⟩
  have c_within : Cal P w K mg base "within" P_within 1 (sp_within K (He.ga K "Frame")) _ _ := ⟨ok_within T  F_within, b_within, He.keep_ok (c2.fact 1 (f := .keep "within") rfl), He.glo_ok X G (c2.fact 0 (f := .glo "within") rfl)⟩
  have c_toldKind : Cal P w K mg base "told_kind" P_toldKind 1 (sp_toldKind K (He.ga K "Frame")) _ _ := ⟨ok_toldKind T  F_toldKind, b_toldKind, He.keep_ok (c2.fact 3 (f := .keep "told_kind") rfl), He.glo_ok X G (c2.fact 2 (f := .glo "told_kind") rfl)⟩
  have c_sentKind : Cal P w K mg base "sent_kind" P_sentKind 1 (sp_sentKind K (He.ga K "Frame")) _ _ := ⟨ok_sentKind T  F_sentKind, b_sentKind, He.keep_ok (c2.fact 5 (f := .keep "sent_kind") rfl), He.glo_ok X G (c2.fact 4 (f := .glo "sent_kind") rfl)⟩
  have c_linkPart : CalM P w K (He.ga K "Frame") mg base "link_part" P_linkPart 1 (sp_linkPart K (He.ga K "Frame")) _ _ := ⟨ok_linkPart T  F_linkPart, b_linkPart, He.meth_ok (c2.fact 6 (f := .meth "Frame" "link_part") rfl)⟩
  have c_sourcePart : CalM P w K (He.ga K "Frame") mg base "source_part" P_sourcePart 1 (sp_sourcePart K (He.ga K "Frame")) _ _ := ⟨ok_sourcePart T  F_sourcePart, b_sourcePart, He.meth_ok (c2.fact 7 (f := .meth "Frame" "source_part") rfl)⟩
  have c_clocksOf : CalM P w K (He.ga K "Frame") mg base "clocks_of" P_clocksOf 1 (sp_clocksOf K (He.ga K "Frame")) _ _ := ⟨ok_clocksOf T  F_clocksOf, b_clocksOf, He.meth_ok (c2.fact 8 (f := .meth "Frame" "clocks_of") rfl)⟩
  have c_firstHands : Cal P w K mg base "first_hands" P_firstHands 2 (sp_firstHands K (He.ga K "Frame")) _ _ := ⟨ok_firstHands T c_clocksOf F_firstHands, b_firstHands, He.keep_ok (c2.fact 10 (f := .keep "first_hands") rfl), He.glo_ok X G (c2.fact 9 (f := .glo "first_hands") rfl)⟩
  have c_handAfter : Cal P w K mg base "hand_after" P_handAfter 2 (sp_handAfter K (He.ga K "Frame")) _ _ := ⟨ok_handAfter T c_toldKind F_handAfter, b_handAfter, He.keep_ok (c2.fact 12 (f := .keep "hand_after") rfl), He.glo_ok X G (c2.fact 11 (f := .glo "hand_after") rfl)⟩
  have c_clockBounds : Cal P w K mg base "clock_bounds" P_clockBounds 2 (sp_clockBounds K (He.ga K "Frame")) _ _ := ⟨ok_clockBounds T c_within F_clockBounds, b_clockBounds, He.keep_ok (c2.fact 14 (f := .keep "clock_bounds") rfl), He.glo_ok X G (c2.fact 13 (f := .glo "clock_bounds") rfl)⟩
  have c_deedBounds : Cal P w K mg base "deed_bounds" P_deedBounds 2 (sp_deedBounds K (He.ga K "Frame")) _ _ := ⟨ok_deedBounds T c_sourcePart c_within c_linkPart F_deedBounds, b_deedBounds, He.keep_ok (c2.fact 16 (f := .keep "deed_bounds") rfl), He.glo_ok X G (c2.fact 15 (f := .glo "deed_bounds") rfl)⟩
  have c_eventBounds : Cal P w K mg base "event_bounds" P_eventBounds 3 (sp_eventBounds K (He.ga K "Frame")) _ _ := ⟨ok_eventBounds T c_clocksOf c_clockBounds c_handAfter c_deedBounds F_eventBounds, b_eventBounds, He.keep_ok (c2.fact 18 (f := .keep "event_bounds") rfl), He.glo_ok X G (c2.fact 17 (f := .glo "event_bounds") rfl)⟩
  have c_viewBounds : Cal P w K mg base "view_bounds" P_viewBounds 4 (sp_viewBounds K (He.ga K "Frame")) _ _ := ⟨ok_viewBounds T c_firstHands c_sentKind c_eventBounds F_viewBounds, b_viewBounds, He.keep_ok (c2.fact 20 (f := .keep "view_bounds") rfl), He.glo_ok X G (c2.fact 19 (f := .glo "view_bounds") rfl)⟩
  have c_lawKind : Cal P w K mg base "_law_kind" P_lawKind 1 (sp_lawKind K (He.ga K "Frame")) _ _ := ⟨ok_lawKind T  F_lawKind, b_lawKind, He.keep_ok (c2.fact 22 (f := .keep "_law_kind") rfl), He.glo_ok X G (c2.fact 21 (f := .glo "_law_kind") rfl)⟩
  have c_restDue : Cal P w K mg base "_law_rest_due" P_restDue 1 (sp_restDue K (He.ga K "Frame")) _ _ := ⟨ok_restDue T  F_restDue, b_restDue, He.keep_ok (c2.fact 24 (f := .keep "_law_rest_due") rfl), He.glo_ok X G (c2.fact 23 (f := .glo "_law_rest_due") rfl)⟩
  have c_clockDue : Cal P w K mg base "_law_clock_due" P_clockDue 1 (sp_clockDue K (He.ga K "Frame")) _ _ := ⟨ok_clockDue T  F_clockDue, b_clockDue, He.keep_ok (c2.fact 26 (f := .keep "_law_clock_due") rfl), He.glo_ok X G (c2.fact 25 (f := .glo "_law_clock_due") rfl)⟩
  have c_take : Cal P w K mg base "_law_take" P_take 1 (sp_take K (He.ga K "Frame")) _ _ := ⟨ok_take T  F_take, b_take, He.keep_ok (c2.fact 28 (f := .keep "_law_take") rfl), He.glo_ok X G (c2.fact 27 (f := .glo "_law_take") rfl)⟩
  have c_draws : Cal P w K mg base "_law_draws" P_draws 1 (sp_draws K (He.ga K "Frame")) _ _ := ⟨ok_draws T  F_draws, b_draws, He.keep_ok (c2.fact 30 (f := .keep "_law_draws") rfl), He.glo_ok X G (c2.fact 29 (f := .glo "_law_draws") rfl)⟩
  have c_init : CalI P w K (He.ga K "Frame") mg base P_init 1 (sp_init K (He.ga K "Frame")) _ _ := ⟨ok_init T  F_init, b_init, He.mkr_ok (c2.fact 44 (f := .mkr "Frame") rfl)⟩
  have c_mkFrame : Cal P w K mg base "_law_frame" P_mkFrame 3 (sp_mkFrame K (He.ga K "Frame")) _ _ := ⟨ok_mkFrame T c_take c_init F_mkFrame, b_mkFrame, He.keep_ok (c2.fact 33 (f := .keep "_law_frame") rfl), He.glo_ok X G (c2.fact 32 (f := .glo "_law_frame") rfl)⟩
  have c_deed : Cal P w K mg base "_law_deed" P_deed 2 (sp_deed K (He.ga K "Frame")) _ _ := ⟨ok_deed T c_take F_deed, b_deed, He.keep_ok (c2.fact 35 (f := .keep "_law_deed") rfl), He.glo_ok X G (c2.fact 34 (f := .glo "_law_deed") rfl)⟩
  have c_events : Cal P w K mg base "_law_events" P_events 3 (sp_events K (He.ga K "Frame")) _ _ := ⟨ok_events T c_take c_deed F_events, b_events, He.keep_ok (c2.fact 37 (f := .keep "_law_events") rfl), He.glo_ok X G (c2.fact 36 (f := .glo "_law_events") rfl)⟩
  have c_asked : Cal P w K mg base "_law_asked" P_asked 4 (sp_asked K (He.ga K "Frame")) _ _ := ⟨ok_asked T c_firstHands c_clockDue c_restDue c_lawKind c_eventBounds F_asked, b_asked, He.keep_ok (c2.fact 39 (f := .keep "_law_asked") rfl), He.glo_ok X G (c2.fact 38 (f := .glo "_law_asked") rfl)⟩
  exact ok_law T c_draws c_mkFrame c_events c_asked c_viewBounds F_law
end W3

/-! ## LayZ1 -/
set_option maxHeartbeats 0
namespace W3
open PySem PySem.Spec PyProof.Rows L2
abbrev R3 : PySem.W.OpenRow := PySem.W.OpenLaw.row PySem.Challenge.rw_whensure_k68_whole_bounds_of_two_devices
def names3 : List PySem.Str := ["_wall", "START", "within", "first_hands", "told_kind", "hand_after", "clock_bounds", "deed_bounds", "event_bounds", "sent_kind", "view_bounds", "Frame", "_law_draws", "_law_take", "_law_frame", "_law_deed", "_law_clock_due", "_law_rest_due", "_law_kind", "_law_events", "_law_asked"]
theorem run3 (w : World) : HandSHeadRun.RunEq R3 (PySem.W.view R3.prog [24]) hk3 ob3 3000 names3 w := by
  intro os
  kernel_rfl
end W3

/-! ## LayZ -/
namespace W3
open PySem L2
theorem law_said {K : Fg} {C : Addr} {H : Hp} {a : Addr} {ns : List Int} {E : XK} (hl : ns.length ≤ 63) (hS : SqL K H a (ns.map V.int)) : sp_law K C [.ref a] H (fun v _ => v = .bl true) E := by
  refine ⟨H, ns, Same.refl H, ⟨rfl, ?_, ?_⟩, hl, ?_⟩
  · intro m e hm
    match m, hm with
    | 0, hm => cases hm; exact ⟨_, rfl, a, rfl, hS⟩
  · intro m m' em em' r h1 h2 m1 m2 _ _
    match m, h1 with
    | 0, h1 => cases h1; cases m1
  · rintro v r γ' σ' G' H' rfl ra s'
    exact Da.bool_inv (show Da K G' v (.bool true) from ra)
end W3
open PySem PySem.W PySem.Calls PyProof.Rows
set_option maxRecDepth 100000 in
set_option maxHeartbeats 0 in
theorem PySem.Challenge.cw_whensure_k68_whole_bounds_of_two_devices_holds : PySem.Challenge.rw_whensure_k68_whole_bounds_of_two_devices.Holds := by
  w_on; o_law
  refine HandSHeadRun.head_any (r := W3.R3) (q := view W3.R3.prog [24]) (H := W3.hk3) (ob := W3.ob3) (M := 3000) (loose := W3.names3) (d := HandSHeadRun.topDef W3.R3.prog 24) (kwd := []) W3.ob3_eq
    (by kernel_rfl) (fun s => by kernel_rfl) W3.run3 (by kernel_rfl) (by kernel_rfl) (by kernel_rfl) (by rfl) (by first | assumption | decide +kernel) (by decide +kernel) ⟨rfl, rfl, rfl, rfl, rfl, by decide +kernel⟩ ?hw ?hc
  case hw => w_witness2
  case hc =>
    refine L2.walk_ofE (l := PySem.Challenge.rw_whensure_k68_whole_bounds_of_two_devices) (n := 63) (k := 5) (x := "_law_script") (CX := L2.CX0) rfl (by decide) (by kernel_rfl) ⟨rfl, by decide, by decide⟩ ?F (fun _ _ _ _ z => z)
    intro w mg fa h Y G hmg0
    obtain ⟨K, KX, c⟩ := Y
    have hmg : mg ("law" : PySem.Str) = some (.ref fa) := by
      have e : (HandSHeadRun.topDef W3.R3.prog 24).name = ("law" : PySem.Str) := by kernel_rfl
      rw [← e]
      exact hmg0
    obtain ⟨fd, hb, hF⟩ := W3.facts (P := (PySem.Challenge.rw_whensure_k68_whole_bounds_of_two_devices).prog) (w := w) KX G hmg c
    exact ⟨K, fd, W3.sp_law K (He.ga K "Frame"), KX, hb, fun H a ns hl _ hS => W3.law_said hl hS, hF⟩

