import PyProof.Rows.All
import Wide.All
import OpenK.AllK
import Wide.FinOn
import HandS.ForMost
import HandS.Flow
import HandS.IsInst
import HandS.Walk
import HandS.Style
import HandS.TupAny
import HandS.TupLe
import HandS.TupMul
import HandS.Deep
import HandS.Conv
import HandS.SortRule
import HandS.SortInts
import HandS.Wide
import KE.KTupSum
import HandS.DictTup
import KE.GoesEnum
import HandS.SetFor
import HandS.Strs
import HandS.Head2
import HandS.WordsDict
import HandS.More
import PySem.Challenge.RW_ringlayers_k08_whole_boards
import HandS.Exc
import HandS.ExcOwn
import HandS.ExcIs
import HandS.WordsExc
import HandS.HeadHook1
import KE.BitLaws
import KE.KStateDown
import HandS.Defaults
import HandS.Head0
import HandS.Head1
import HandS.HeadEnd
import HandS.HeadHook2
set_option Elab.async false
set_option linter.all false
set_option maxRecDepth 100000
set_option maxHeartbeats 4000000
set_option autoImplicit false
namespace Pv
open PySem PySem.Spec PyProof.Rows L2
/-! ### data -/
inductive D where
  | non | bl (b : Bool) | int (i : Int) | str (s : Str)
  | tup (xs : List D) | lst (xs : List D) | scr (ns : List Int)
  | dct (kvs : List (List Int × D)) | dci (kvs : List (Int × D))
  | net (f t i : D) | brd (r n : D)
  | adr (a : Addr)
abbrev kk (k : List Int) : List Key := k.map Sum.inl
def Dct : HO → Prop
  | .dT _ => True
  | .dK _ => True
  | _ => False
/-- all that was tracked is as it was, but for dicts that were locked -/
def SL (H H' : Hp) : Prop := ∀ a o, H a = some o → H' a = some o ∨ (Dct o ∧ ∃ od, H' a = some (.frz od o))
theorem SL.refl (H : Hp) : SL H H := fun _ _ h => .inl h
theorem SL.trans {H H1 H2 : Hp} (a : SL H H1) (b : SL H1 H2) : SL H H2 := fun x o h => by
  rcases a x o h with h1 | ⟨d, od, h1⟩
  · exact b x o h1
  · rcases b x _ h1 with h2 | ⟨d2, _⟩
    · exact .inr ⟨d, od, h2⟩
    · exact d2.elim
theorem SL.free {H H' : Hp} (e : SL H H') {a : Addr} (h : H' a = none) : H a = none := by
  cases q : H a with
  | none => rfl
  | some o => rcases e a o q with h1 | ⟨_, od, h1⟩ <;> rw [h] at h1 <;> cases h1
theorem SL.tup {H H' : Hp} (e : SL H H') {a : Addr} {vs : List V} (h : H a = some (.tup vs)) : H' a = some (.tup vs) := by
  rcases e a _ h with h1 | ⟨d, _⟩
  · exact h1
  · exact d.elim
theorem SL.lst {H H' : Hp} (e : SL H H') {a : Addr} {vs : List V} (h : H a = some (.lst vs)) : H' a = some (.lst vs) := by
  rcases e a _ h with h1 | ⟨d, _⟩
  · exact h1
  · exact d.elim
theorem SL.ins {H H' : Hp} (e : SL H H') {a C dx : Addr} {fs : List (Str × V)} (h : H a = some (.ins C dx fs)) : H' a = some (.ins C dx fs) := by
  rcases e a _ h with h1 | ⟨d, _⟩
  · exact h1
  · exact d.elim
theorem SL.rd {H H' : Hp} (e : SL H H') {a : Addr} {u : HO} (h : Rd H a u) : Rd H' a u := by
  rcases h with h | ⟨o, h⟩
  · rcases e a _ h with h1 | ⟨_, od, h1⟩
    · exact .inl h1
    · exact .inr ⟨od, h1⟩
  · rcases e a _ h with h1 | ⟨d, _⟩
    · exact .inr ⟨o, h1⟩
    · exact d.elim
theorem SL.seq {K : PySem.W.Frag} {H H' : Hp} {a : Addr} {xs : List V} (e : SL H H') (h : SqL K H a xs) : SqL K H' a xs := by
  rcases h with h | h
  · exact .inl (e.rd h)
  · exact .inr h
theorem SL.new {H : Hp} {a : Addr} {o : HO} (h : H a = none) : SL H (upd H a o) := fun b u e => .inl (by rw [upd_ne (ne_of_none e h)]; exact e)
/-- where the class Board stands -/
def boardA (K : PySem.W.Frag) : Addr := match PySem.W.nsIn K mainGlobals "Board" with
  | some (some (.ref a)) => a
  | _ => 0
mutual
inductive Rep (K : PySem.W.Frag) (C : Addr) (G : Hp) : V → D → Prop
  | non : Rep K C G .non .non
  | bl (b : Bool) : Rep K C G (.bl b) (.bl b)
  | int (i : Int) : Rep K C G (.int i) (.int i)
  | str (s : Str) : Rep K C G (.str s) (.str s)
  | tup {a : Addr} {vs : List V} {ds : List D} : G a = some (.tup vs) → RepL K C G vs ds → Rep K C G (.ref a) (.tup ds)
  | lst {a : Addr} {vs : List V} {ds : List D} : G a = some (.lst vs) → RepL K C G vs ds → Rep K C G (.ref a) (.lst ds)
  | scr {a : Addr} {ns : List Int} : SqL K G a (ns.map V.int) → Rep K C G (.ref a) (.scr ns)
  | dct {a : Addr} {kvs : List (List Key × V)} {kds : List (List Int × D)} : Rd G a (.dT kvs) → kvs.map Prod.fst = kds.map (fun p => kk p.1) → RepL K C G (kvs.map Prod.snd) (kds.map Prod.snd) → Rep K C G (.ref a) (.dct kds)
  | dci {a : Addr} {kvs : List (Key × V)} {kds : List (Int × D)} : Rd G a (.dK kvs) → kvs.map Prod.fst = kds.map (fun p => Sum.inl p.1) → RepL K C G (kvs.map Prod.snd) (kds.map Prod.snd) → Rep K C G (.ref a) (.dci kds)
  | net {a dx : Addr} {v1 v2 v3 : V} {d1 d2 d3 : D} : G a = some (.ins C dx [("fars", v1), ("turns", v2), ("inside", v3)]) → Rep K C G v1 d1 → Rep K C G v2 d2 → Rep K C G v3 d3 → Rep K C G (.ref a) (.net d1 d2 d3)
  | netP {a dx : Addr} {v1 v2 v3 : V} {d1 d2 : D} : G a = some (.ins C dx [("fars", v1), ("turns", v2), ("inside", v3)]) → Rep K C G v1 d1 → Rep K C G v2 d2 → Rep K C G (.ref a) (.net d1 d2 .non)
  | brd {a dx : Addr} {v1 v2 : V} {d1 d2 : D} : G a = some (.ins (boardA K) dx [("rows", v1), ("next_number", v2)]) → Rep K C G v1 d1 → Rep K C G v2 d2 → Rep K C G (.ref a) (.brd d1 d2)
  | adr (a : Addr) : Rep K C G (.ref a) (.adr a)
inductive RepL (K : PySem.W.Frag) (C : Addr) (G : Hp) : List V → List D → Prop
  | nil : RepL K C G [] []
  | cons {v : V} {vs : List V} {d : D} {ds : List D} : Rep K C G v d → RepL K C G vs ds → RepL K C G (v :: vs) (d :: ds)
end
section
variable {K : PySem.W.Frag} {C : Addr} {G G' H H' : Hp} {v : V} {d : D} {vs : List V} {ds : List D} {a : Addr}
theorem Rep.mono (e : SL G G') (h : Rep K C G v d) : Rep K C G' v d := by
  refine Rep.rec (motive_1 := fun v d _ => Rep K C G' v d) (motive_2 := fun vs ds _ => RepL K C G' vs ds) ?_ ?_ ?_ ?_ ?_ ?_ ?_ ?_ ?_ ?_ ?_ ?_ ?_ ?_ ?_ h
  · exact .non
  · exact .bl
  · exact .int
  · exact .str
  · exact fun h _ i => .tup (e.tup h) i
  · exact fun h _ i => .lst (e.lst h) i
  · exact fun h => .scr (e.seq h)
  · exact fun h k _ i => .dct (e.rd h) k i
  · exact fun h k _ i => .dci (e.rd h) k i
  · exact fun h _ _ _ i1 i2 i3 => .net (e.ins h) i1 i2 i3
  · exact fun h _ _ i1 i2 => .netP (e.ins h) i1 i2
  · exact fun h _ _ i1 i2 => .brd (e.ins h) i1 i2
  · exact .adr
  · exact .nil
  · exact fun _ _ i1 i2 => .cons i1 i2
theorem RepL.mono (e : SL G G') : ∀ {vs : List V} {ds : List D}, RepL K C G vs ds → RepL K C G' vs ds
  | _, _, .nil => .nil
  | _, _, .cons h t => .cons (h.mono e) (RepL.mono e t)
theorem RepL.length : ∀ {vs : List V} {ds : List D}, RepL K C G vs ds → vs.length = ds.length
  | _, _, .nil => rfl
  | _, _, .cons h t => congrArg (· + 1) (RepL.length t)
theorem RepL.get : ∀ {vs : List V} {ds : List D} {i : Nat} {d : D}, RepL K C G vs ds → ds[i]? = some d → ∃ v, vs[i]? = some v ∧ Rep K C G v d
  | _, _, _, _, .nil, e => by simp at e
  | _, _, 0, _, .cons r _, e => by simp at e; subst e; exact ⟨_, rfl, r⟩
  | _, _, i + 1, d, .cons _ t, e => by
    obtain ⟨u, h1, h2⟩ := RepL.get (i := i) (d := d) t (by simpa using e)
    exact ⟨u, by simpa using h1, h2⟩
theorem RepL.get' : ∀ {vs : List V} {ds : List D} {i : Nat} {v : V}, RepL K C G vs ds → vs[i]? = some v → ∃ d, ds[i]? = some d ∧ Rep K C G v d
  | _, _, _, _, .nil, e => by simp at e
  | _, _, 0, _, .cons r _, e => by simp at e; subst e; exact ⟨_, rfl, r⟩
  | _, _, i + 1, v, .cons _ t, e => by
    obtain ⟨u, h1, h2⟩ := RepL.get' (i := i) (v := v) t (by simpa using e)
    exact ⟨u, by simpa using h1, h2⟩
theorem RepL.app : ∀ {vs ws : List V} {ds es : List D}, RepL K C G vs ds → RepL K C G ws es → RepL K C G (vs ++ ws) (ds ++ es)
  | _, _, _, _, .nil, s => s
  | _, _, _, _, .cons r t, s => .cons r (RepL.app t s)
theorem RepL.take : ∀ {vs : List V} {ds : List D} (n : Nat), RepL K C G vs ds → RepL K C G (vs.take n) (ds.take n)
  | _, _, 0, _ => .nil
  | _, _, _ + 1, .nil => .nil
  | _, _, n + 1, .cons r t => .cons r (RepL.take n t)
theorem RepL.drop : ∀ {vs : List V} {ds : List D} (n : Nat), RepL K C G vs ds → RepL K C G (vs.drop n) (ds.drop n)
  | _, _, 0, r => r
  | _, _, _ + 1, .nil => .nil
  | _, _, n + 1, .cons _ t => RepL.drop n t
theorem RepL.set {x : V} {y : D} (r : Rep K C G x y) : ∀ {vs : List V} {ds : List D} (i : Nat), RepL K C G vs ds → RepL K C G (vs.set i x) (ds.set i y)
  | _, _, _, .nil => .nil
  | _, _, 0, .cons _ t => .cons r t
  | _, _, i + 1, .cons q t => .cons q (RepL.set r i t)
theorem RepL.rev : ∀ {vs : List V} {ds : List D}, RepL K C G vs ds → RepL K C G vs.reverse ds.reverse
  | _, _, .nil => .nil
  | _, _, .cons r t => by
    rw [List.reverse_cons, List.reverse_cons]
    exact (RepL.rev t).app (.cons r .nil)
theorem RepL.ints : ∀ (ns : List Int), RepL K C G (ns.map V.int) (ns.map D.int)
  | [] => .nil
  | n :: ns => .cons (.int n) (RepL.ints ns)
theorem RepL.ints_eq : ∀ {vs : List V} (ns : List Int), RepL K C G vs (ns.map D.int) → vs = ns.map V.int
  | _, [], h => by cases h; rfl
  | _, n :: ns, h => by
    cases h with
    | cons a b => cases a; rw [RepL.ints_eq ns b]; rfl
theorem RepL.bls_eq : ∀ {vs : List V} (ns : List Bool), RepL K C G vs (ns.map D.bl) → vs = ns.map V.bl
  | _, [], h => by cases h; rfl
  | _, n :: ns, h => by
    cases h with
    | cons a b => cases a; rw [RepL.bls_eq ns b]; rfl
theorem RepL.strs_eq : ∀ {vs : List V} (ns : List Str), RepL K C G vs (ns.map D.str) → vs = ns.map V.str
  | _, [], h => by cases h; rfl
  | _, n :: ns, h => by
    cases h with
    | cons a b => cases a; rw [RepL.strs_eq ns b]; rfl
/-- new things have come; what is kept, is kept -/
structure Grow (G H G' H' : Hp) : Prop where
  g : SL G G'
  h : SL H H'
  s : SL G' H'
  n : ∀ a, G a = none → G' a ≠ none → H a = none ∨ ∃ vs, H a = some (.tup vs)
  x : ∀ a o, G a = none → H a = some o → H' a = some o
theorem Grow.refl (s : SL G H) : Grow G H G H := ⟨SL.refl _, SL.refl _, s, fun _ h1 h2 => absurd h1 h2, fun _ _ _ h => h⟩
theorem Grow.trans {G1 H1 G2 H2 : Hp} (a : Grow G H G1 H1) (b : Grow G1 H1 G2 H2) : Grow G H G2 H2 := by
  refine ⟨a.g.trans b.g, a.h.trans b.h, b.s, fun x h1 h2 => ?_, fun x o h1 h2 => ?_⟩
  · by_cases h3 : G1 x = none
    · rcases b.n x h3 h2 with h4 | ⟨vs, h4⟩
      · exact .inl (a.h.free h4)
      · cases q : H x with
        | none => exact .inl rfl
        | some o =>
          have := a.x x o h1 q
          rw [h4] at this
          cases this
          exact .inr ⟨vs, rfl⟩
    · exact a.n x h1 h3
  · have h3 := a.x x o h1 h2
    by_cases h4 : G1 x = none
    · exact b.x x o h4 h3
    · rcases a.n x h1 h4 with h5 | ⟨vs, h5⟩
      · rw [h2] at h5; cases h5
      · rw [h2] at h5; cases h5
        exact b.h.tup h3
/-- a new object, to be shared -/
theorem Grow.new {o : HO} (s : SL G H) (h : H a = none) : Grow G H (upd G a o) (upd H a o) := by
  have hg : G a = none := s.free h
  refine ⟨SL.new hg, SL.new h, fun b u e => ?_, fun b h1 h2 => ?_, fun b u h1 h2 => ?_⟩
  · by_cases hb : b = a
    · subst hb; rw [upd_same] at e ⊢; exact .inl e
    · rw [upd_ne hb] at e ⊢; exact s b u e
  · by_cases hb : b = a
    · subst hb; exact .inl h
    · rw [upd_ne hb] at h2; exact absurd h1 h2
  · rw [upd_ne (ne_of_none h2 h)]; exact h2
/-- a new object, not shared -/
theorem Grow.newH {o : HO} (s : SL G H) (h : H a = none) : Grow G H G (upd H a o) :=
  ⟨SL.refl _, SL.new h, s.trans (SL.new h), fun _ h1 h2 => absurd h1 h2, fun b u _ h2 => by rw [upd_ne (ne_of_none h2 h)]; exact h2⟩
/-- what is not shared yet, is shared -/
theorem Grow.share {o : HO} (s : SL G H) (h : H a = some o) (g : G a = none) (h0 : H' a = none) (k : Grow G' H' G H) : Grow G' H' (upd G a o) H := by
  refine ⟨k.g.trans (SL.new g), k.h, fun b u e => ?_, fun b h1 h2 => ?_, k.x⟩
  · by_cases hb : b = a
    · subst hb; rw [upd_same] at e; cases e; exact .inl h
    · rw [upd_ne hb] at e; exact s b u e
  · by_cases hb : b = a
    · subst hb; exact .inl h0
    · rw [upd_ne hb] at h2; exact k.n b h1 h2
/-- what a def does with values, once for all -/
def spD (K : PySem.W.Frag) (C : Addr) (f : List D → Option D) : Sp := fun vs H Q _ => ∃ G ds d, SL G H ∧ RepL K C G vs ds ∧ f ds = some d ∧ ∀ G' H' v, Grow G H G' H' → Rep K C G' v d → Q v H'
/-- a thing that is one's own at a -/
def Own (K : PySem.W.Frag) (C : Addr) (G H : Hp) (a : Addr) : D → Prop
  | .lst ds => ∃ vs, H a = some (.lst vs) ∧ RepL K C G vs ds
  | .dct kds => ∃ kvs, H a = some (.dT kvs) ∧ kvs.map Prod.fst = kds.map (fun p => kk p.1) ∧ RepL K C G (kvs.map Prod.snd) (kds.map Prod.snd)
  | .dci kds => ∃ kvs, H a = some (.dK kvs) ∧ kvs.map Prod.fst = kds.map (fun p => Sum.inl p.1) ∧ RepL K C G (kvs.map Prod.snd) (kds.map Prod.snd)
  | _ => False
/-- .. to be read -/
def OwnR (K : PySem.W.Frag) (C : Addr) (G H : Hp) (a : Addr) : D → Prop
  | .lst ds => ∃ vs, H a = some (.lst vs) ∧ RepL K C G vs ds
  | .dct kds => ∃ kvs, Rd H a (.dT kvs) ∧ kvs.map Prod.fst = kds.map (fun p => kk p.1) ∧ RepL K C G (kvs.map Prod.snd) (kds.map Prod.snd)
  | .dci kds => ∃ kvs, Rd H a (.dK kvs) ∧ kvs.map Prod.fst = kds.map (fun p => Sum.inl p.1) ∧ RepL K C G (kvs.map Prod.snd) (kds.map Prod.snd)
  | _ => False
theorem Own.r (h : Own K C G H a d) : OwnR K C G H a d := by
  cases d <;> first | exact h.elim | exact h | (obtain ⟨kvs, h1, h2⟩ := h; exact ⟨kvs, .inl h1, h2⟩)
theorem OwnR.mono (e : SL G G') (f : SL H H') (h : OwnR K C G H a d) : OwnR K C G' H' a d := by
  cases d <;> try exact h.elim
  · obtain ⟨vs, h1, h2⟩ := h; exact ⟨vs, f.lst h1, h2.mono e⟩
  · obtain ⟨vs, h1, h2, h3⟩ := h; exact ⟨vs, f.rd h1, h2, h3.mono e⟩
  · obtain ⟨vs, h1, h2, h3⟩ := h; exact ⟨vs, f.rd h1, h2, h3.mono e⟩
theorem Own.mono (e : SL G G') (f : ∀ o, H a = some o → H' a = some o) (h : Own K C G H a d) : Own K C G' H' a d := by
  cases d <;> try exact h.elim
  · obtain ⟨vs, h1, h2⟩ := h; exact ⟨vs, f _ h1, h2.mono e⟩
  · obtain ⟨vs, h1, h2, h3⟩ := h; exact ⟨vs, f _ h1, h2, h3.mono e⟩
  · obtain ⟨vs, h1, h2, h3⟩ := h; exact ⟨vs, f _ h1, h2, h3.mono e⟩
theorem Own.there (h : Own K C G H a d) : ∃ o, H a = some o ∧ ∀ vs, o ≠ .tup vs := by
  cases d <;> try exact h.elim
  · obtain ⟨vs, h1, h2⟩ := h; exact ⟨_, h1, fun _ e => by cases e⟩
  · obtain ⟨vs, h1, h2, h3⟩ := h; exact ⟨_, h1, fun _ e => by cases e⟩
  · obtain ⟨vs, h1, h2, h3⟩ := h; exact ⟨_, h1, fun _ e => by cases e⟩
/-- shared -/
theorem Own.shared (h : Own K C G H a d) (g : G a = none) : ∃ o, H a = some o ∧ Rep K C (upd G a o) (.ref a) d := by
  cases d <;> try exact h.elim
  · obtain ⟨vs, h1, h2⟩ := h; exact ⟨_, h1, .lst upd_same (h2.mono (SL.new g))⟩
  · obtain ⟨vs, h1, h2, h3⟩ := h; exact ⟨_, h1, .dct (.inl upd_same) h2 (h3.mono (SL.new g))⟩
  · obtain ⟨vs, h1, h2, h3⟩ := h; exact ⟨_, h1, .dci (.inl upd_same) h2 (h3.mono (SL.new g))⟩
def RepB (K : PySem.W.Frag) (C : Addr) (G H : Hp) (v : V) (d : D) : Prop := Rep K C G v d ∨ ∃ a, v = .ref a ∧ OwnR K C G H a d
theorem RepB.mono (e : SL G G') (f : SL H H') (h : RepB K C G H v d) : RepB K C G' H' v d := by
  rcases h with h | ⟨a, rfl, h⟩
  · exact .inl (h.mono e)
  · exact .inr ⟨a, rfl, h.mono e f⟩
theorem RepB.lst (s : SL G H) (h : RepB K C G H v (.lst ds)) : ∃ a vs, v = .ref a ∧ H a = some (.lst vs) ∧ RepL K C G vs ds := by
  rcases h with h | ⟨a, rfl, vs, h1, h2⟩
  · cases h with
    | lst h1 h2 => exact ⟨_, _, rfl, s.lst h1, h2⟩
  · exact ⟨a, vs, rfl, h1, h2⟩
theorem RepB.tup (h : RepB K C G H v (.tup ds)) : ∃ a vs, v = .ref a ∧ G a = some (.tup vs) ∧ RepL K C G vs ds := by
  rcases h with h | ⟨a, rfl, h⟩
  · cases h with
    | tup h1 h2 => exact ⟨_, _, rfl, h1, h2⟩
  · exact h.elim
theorem RepB.dct {kds : List (List Int × D)} (s : SL G H) (h : RepB K C G H v (.dct kds)) : ∃ a kvs, v = .ref a ∧ Rd H a (.dT kvs) ∧ kvs.map Prod.fst = kds.map (fun p => kk p.1) ∧ RepL K C G (kvs.map Prod.snd) (kds.map Prod.snd) := by
  rcases h with h | ⟨a, rfl, vs, h1, h2⟩
  · cases h with
    | dct h1 h2 h3 => exact ⟨_, _, rfl, s.rd h1, h2, h3⟩
  · exact ⟨a, vs, rfl, h1, h2⟩
theorem RepB.dci {kds : List (Int × D)} (s : SL G H) (h : RepB K C G H v (.dci kds)) : ∃ a kvs, v = .ref a ∧ Rd H a (.dK kvs) ∧ kvs.map Prod.fst = kds.map (fun p => Sum.inl p.1) ∧ RepL K C G (kvs.map Prod.snd) (kds.map Prod.snd) := by
  rcases h with h | ⟨a, rfl, h⟩
  · cases h with
    | dci h1 h2 h3 => exact ⟨_, _, rfl, s.rd h1, h2, h3⟩
  · obtain ⟨vs, h1, h2⟩ := h; exact ⟨a, vs, rfl, h1, h2⟩
theorem RepB.scr {ns : List Int} (s : SL G H) (h : RepB K C G H v (.scr ns)) : ∃ a, v = .ref a ∧ SqL K H a (ns.map V.int) := by
  rcases h with h | ⟨a, rfl, h⟩
  · cases h with
    | scr h1 => exact ⟨_, rfl, s.seq h1⟩
  · exact h.elim
theorem RepB.int {i : Int} (h : RepB K C G H v (.int i)) : v = .int i := by
  rcases h with h | ⟨a, rfl, h⟩
  · cases h; rfl
  · exact h.elim
theorem RepB.bl {i : Bool} (h : RepB K C G H v (.bl i)) : v = .bl i := by
  rcases h with h | ⟨a, rfl, h⟩
  · cases h; rfl
  · exact h.elim
theorem RepB.str {i : Str} (h : RepB K C G H v (.str i)) : v = .str i := by
  rcases h with h | ⟨a, rfl, h⟩
  · cases h; rfl
  · exact h.elim
theorem RepB.non (h : RepB K C G H v .non) : v = .non := by
  rcases h with h | ⟨a, rfl, h⟩
  · cases h; rfl
  · exact h.elim
end
/-! ### the names' values -/
inductive Sl where
  | no | sh (d : D) | ow (d : D)
abbrev Env := List Sl
structure Gam where
  P : Program
  w : World
  K : PySem.W.Frag
  mg : Str → Option Value
  base : Heap
  k : Nat
  C : Addr
def SlOk (Γ : Gam) (H0 G H : Hp) (x : Option (Option V)) : Sl → Prop
  | .no => True
  | .sh d => ∃ v, x = some (some v) ∧ Rep Γ.K Γ.C G v d
  | .ow d => ∃ a, x = some (some (.ref a)) ∧ H0 a = none ∧ G a = none ∧ Own Γ.K Γ.C G H a d
structure EnvOk (Γ : Gam) (H0 G H : Hp) (ρ : Env) (σ : L2.St) : Prop where
  len : ρ.length = σ.length
  sl : ∀ (i : Nat) (s : Sl), ρ[i]? = some s → SlOk Γ H0 G H (σ[i]?) s
  ne : ∀ (i j : Nat) (d e : D) (a : Addr), i ≠ j → ρ[i]? = some (.ow d) → ρ[j]? = some (.ow e) → σ[i]? = some (some (.ref a)) → σ[j]? ≠ some (some (.ref a))
section
variable {Γ : Gam} {H0 G H G' H' : Hp} {ρ : Env} {σ : L2.St}
theorem SlOk.grow {x : Option (Option V)} {s : Sl} (g : Grow G H G' H') (h : SlOk Γ H0 G H x s) : SlOk Γ H0 G' H' x s := by
  cases s with
  | no => trivial
  | sh d => obtain ⟨v, h1, h2⟩ := h; exact ⟨v, h1, h2.mono g.g⟩
  | ow d =>
    obtain ⟨a, h1, h2, h3, h4⟩ := h
    obtain ⟨o, h5, h6⟩ := h4.there
    refine ⟨a, h1, h2, ?_, h4.mono g.g fun o h => g.x a o h3 h⟩
    by_cases q : G' a = none
    · exact q
    · rcases g.n a h3 q with h7 | ⟨vs, h7⟩
      · rw [h5] at h7; cases h7
      · rw [h5] at h7; cases h7; exact absurd rfl (h6 vs)
theorem EnvOk.grow (E : EnvOk Γ H0 G H ρ σ) (g : Grow G H G' H') : EnvOk Γ H0 G' H' ρ σ :=
  ⟨E.len, fun i s h => (E.sl i s h).grow g, E.ne⟩
theorem EnvOk.setSh (E : EnvOk Γ H0 G H ρ σ) {i : Nat} {v : V} {d : D} (r : Rep Γ.K Γ.C G v d) : EnvOk Γ H0 G H (ρ.set i (.sh d)) (σ.set i (some v)) := by
  refine ⟨by rw [List.length_set, List.length_set]; exact E.len, fun j s h => ?_, fun j k d1 d2 a h1 h2 h3 h4 h5 => ?_⟩
  · by_cases hj : i = j
    · subst hj
      by_cases hl : i < ρ.length
      · rw [List.getElem?_set_self hl] at h
        cases h
        exact ⟨v, by rw [List.getElem?_set_self (by rw [← E.len]; exact hl)], r⟩
      · rw [List.getElem?_eq_none (by simpa using hl)] at h; cases h
    · rw [List.getElem?_set_ne hj] at h ⊢
      exact E.sl j s h
  · have e1 : j ≠ i := by
      rintro rfl
      by_cases hl : j < ρ.length
      · rw [List.getElem?_set_self hl] at h2; cases h2
      · rw [List.getElem?_eq_none (by simpa using hl)] at h2; cases h2
    have e2 : k ≠ i := by
      rintro rfl
      by_cases hl : k < ρ.length
      · rw [List.getElem?_set_self hl] at h3; cases h3
      · rw [List.getElem?_eq_none (by simpa using hl)] at h3; cases h3
    rw [List.getElem?_set_ne (Ne.symm e1)] at h2 h4
    rw [List.getElem?_set_ne (Ne.symm e2)] at h3 h5
    exact E.ne j k d1 d2 a h1 h2 h3 h4 h5
/-- one's own thing at a is in no other slot -/
theorem EnvOk.setOw (E : EnvOk Γ H0 G H ρ σ) {i : Nat} {a : Addr} {d : D} (h0 : H0 a = none) (g : G a = none) (r : Own Γ.K Γ.C G H a d)
    (new : ∀ j e, j ≠ i → ρ[j]? = some (.ow e) → σ[j]? ≠ some (some (.ref a))) : EnvOk Γ H0 G H (ρ.set i (.ow d)) (σ.set i (some (.ref a))) := by
  have hget : ∀ {j s}, (ρ.set i (.ow d))[j]? = some s → (j = i ∧ s = .ow d ∧ i < ρ.length) ∨ (j ≠ i ∧ ρ[j]? = some s) := fun {j s} h => by
    by_cases hj : i = j
    · subst hj
      by_cases hl : i < ρ.length
      · rw [List.getElem?_set_self hl] at h
        cases h
        exact .inl ⟨rfl, rfl, hl⟩
      · rw [List.getElem?_eq_none (by simpa using hl)] at h; cases h
    · rw [List.getElem?_set_ne hj] at h
      exact .inr ⟨Ne.symm hj, h⟩
  refine ⟨by rw [List.length_set, List.length_set]; exact E.len, fun j s h => ?_, fun j k d1 d2 b h1 h2 h3 h4 h5 => ?_⟩
  · rcases hget h with ⟨rfl, rfl, hl⟩ | ⟨hj, h⟩
    · exact ⟨a, by rw [List.getElem?_set_self (by rw [← E.len]; exact hl)], h0, g, r⟩
    · rw [List.getElem?_set_ne (Ne.symm hj)]
      exact E.sl j s h
  · rcases hget h2 with ⟨e1, e1', hl1⟩ | ⟨hj, h2'⟩
    · rcases hget h3 with ⟨e2, e2', hl2⟩ | ⟨hk, h3'⟩
      · exact h1 (e1.trans e2.symm)
      · rw [e1, List.getElem?_set_self (by rw [← E.len]; exact hl1)] at h4
        cases h4
        rw [List.getElem?_set_ne (Ne.symm hk)] at h5
        exact new k d2 hk h3' h5
    · rw [List.getElem?_set_ne (Ne.symm hj)] at h4
      rcases hget h3 with ⟨e2, e2', hl2⟩ | ⟨hk, h3'⟩
      · rw [e2, List.getElem?_set_self (by rw [← E.len]; exact hl2)] at h5
        cases h5
        exact new j d1 hj h2' h4
      · rw [List.getElem?_set_ne (Ne.symm hk)] at h5
        exact E.ne j k d1 d2 b h1 h2' h3' h4 h5
/-- one's own thing at a has changed -/
theorem EnvOk.upd (E : EnvOk Γ H0 G H ρ σ) {i : Nat} {a : Addr} {d d' : D} {o : HO} (hi : ρ[i]? = some (.ow d)) (hσ : σ[i]? = some (some (.ref a))) (h0 : H0 a = none) (g : G a = none) (r : Own Γ.K Γ.C G (upd H a o) a d') :
    EnvOk Γ H0 G (L2.upd H a o) (ρ.set i (.ow d')) σ := by
  have hl : i < ρ.length := (List.getElem?_eq_some_iff.mp hi).1
  have hget : ∀ {j s}, (ρ.set i (.ow d'))[j]? = some s → (j = i ∧ s = .ow d') ∨ (j ≠ i ∧ ρ[j]? = some s) := fun {j s} h => by
    by_cases hj : i = j
    · subst hj
      rw [List.getElem?_set_self hl] at h
      cases h
      exact .inl ⟨rfl, rfl⟩
    · rw [List.getElem?_set_ne hj] at h
      exact .inr ⟨Ne.symm hj, h⟩
  refine ⟨by rw [List.length_set]; exact E.len, fun j s h => ?_, fun j k d1 d2 b h1 h2 h3 h4 => ?_⟩
  · rcases hget h with ⟨rfl, rfl⟩ | ⟨hj, h⟩
    · exact ⟨a, hσ, h0, g, r⟩
    · have q := E.sl j s h
      cases s with
      | no => trivial
      | sh e => exact q
      | ow e =>
        obtain ⟨b, q1, q2, q3, q4⟩ := q
        have hb : b ≠ a := by
          rintro rfl
          exact E.ne j i e d b hj h hi q1 hσ
        exact ⟨b, q1, q2, q3, q4.mono (SL.refl _) fun o h => by rw [upd_ne hb]; exact h⟩
  · rcases hget h2 with ⟨rfl, _⟩ | ⟨hj, h2'⟩ <;> rcases hget h3 with ⟨rfl, _⟩ | ⟨hk, h3'⟩
    · exact absurd rfl h1
    · exact E.ne _ _ d d2 b h1 hi h3' h4
    · exact E.ne _ _ d1 d b h1 h2' hi h4
    · exact E.ne _ _ d1 d2 b h1 h2' h3' h4
/-- the i-th is shared from here on -/
theorem EnvOk.share (E : EnvOk Γ H0 G H ρ σ) {i : Nat} {a : Addr} {d : D} {o : HO} (hi : ρ[i]? = some (.ow d)) (hσ : σ[i]? = some (some (.ref a))) (ho : H a = some o) (g : G a = none) (r : Rep Γ.K Γ.C (L2.upd G a o) (.ref a) d) :
    EnvOk Γ H0 (L2.upd G a o) H (ρ.set i (.sh d)) σ := by
  have hl : i < ρ.length := (List.getElem?_eq_some_iff.mp hi).1
  have hget : ∀ {j s}, (ρ.set i (.sh d))[j]? = some s → (j = i ∧ s = .sh d) ∨ (j ≠ i ∧ ρ[j]? = some s) := fun {j s} h => by
    by_cases hj : i = j
    · subst hj
      rw [List.getElem?_set_self hl] at h
      cases h
      exact .inl ⟨rfl, rfl⟩
    · rw [List.getElem?_set_ne hj] at h
      exact .inr ⟨Ne.symm hj, h⟩
  refine ⟨by rw [List.length_set]; exact E.len, fun j s h => ?_, fun j k d1 d2 b h1 h2 h3 h4 => ?_⟩
  · rcases hget h with ⟨rfl, rfl⟩ | ⟨hj, h⟩
    · exact ⟨_, hσ, r⟩
    · have q := E.sl j s h
      cases s with
      | no => trivial
      | sh e => obtain ⟨v, q1, q2⟩ := q; exact ⟨v, q1, q2.mono (SL.new g)⟩
      | ow e =>
        obtain ⟨b, q1, q2, q3, q4⟩ := q
        have hb : b ≠ a := by
          rintro rfl
          exact E.ne j i e d b hj h hi q1 hσ
        exact ⟨b, q1, q2, by rw [upd_ne hb]; exact q3, q4.mono (SL.new g) fun o h => h⟩
  · rcases hget h2 with ⟨rfl, e⟩ | ⟨hj, h2'⟩
    · cases e
    · rcases hget h3 with ⟨rfl, e⟩ | ⟨hk, h3'⟩
      · cases e
      · exact E.ne _ _ d1 d2 b h1 h2' h3' h4
end
end Pv
set_option Elab.async false
set_option linter.all false
set_option maxRecDepth 100000
set_option maxHeartbeats 4000000
set_option autoImplicit false
namespace Pv
open PySem PySem.Spec PyProof.Rows L2
/-! ### judgements -/
structure Good (Γ : Gam) (N : List Str) (sc : Scope) (X : Cx) : Prop where
  prog : X.prog = Γ.P
  w : X.w = Γ.w
  K : X.K = Γ.K
  mg : X.mg = Γ.mg
  base : X.base = Γ.base
  calm : X.calm = true
  xe : X.xe = fun _ _ => False
  room : Room Γ.k X.A
  N : X.N = N
  sc : X.env.scope = sc
inductive Kd where
  | e | f | b
def Out (Γ : Gam) : Kd → (G H G' H' : Hp) → V → D → Prop
  | .e, _, _, G', _, v, d => Rep Γ.K Γ.C G' v d
  | .f, _, H, G', H', v, d => ∃ a, v = .ref a ∧ H a = none ∧ G' a = none ∧ Own Γ.K Γ.C G' H' a d
  | .b, _, _, G', H', v, d => RepB Γ.K Γ.C G' H' v d
def SemV (Γ : Gam) (κ : Kd) (t : TE) (F : Env → Option D) : Prop := ∀ (H0 : Hp) (ρ : Env) (σ : L2.St) (G H : Hp) (Q : VK) (d : D), SL G H → EnvOk Γ H0 G H ρ σ → F ρ = some d →
  (∀ (G' H' : Hp) (v : V), Grow G H G' H' → Out Γ κ G H G' H' v d → Q v H') → t σ H Q
def SemT (Γ : Gam) (t : TT) (F : Env → Option Bool) : Prop := ∀ (H0 : Hp) (ρ : Env) (σ : L2.St) (G H : Hp) (Q : Bool → Hp → Prop) (c : Bool), SL G H → EnvOk Γ H0 G H ρ σ → F ρ = some c →
  (∀ (G' H' : Hp), Grow G H G' H' → Q c H') → t σ H Q
def SemA (Γ : Gam) (t : TA) (F : Env → Option (List D)) : Prop := ∀ (H0 : Hp) (ρ : Env) (σ : L2.St) (G H : Hp) (Q : List V → Hp → Prop) (ds : List D), SL G H → EnvOk Γ H0 G H ρ σ → F ρ = some ds →
  (∀ (G' H' : Hp) (vs : List V), Grow G H G' H' → RepL Γ.K Γ.C G' vs ds → Q vs H') → t σ H Q
structure DV (Γ : Gam) (N : List Str) (sc : Scope) (κ : Kd) (e : Expr) (F : Env → Option D) : Prop where
  ex : ∃ t, (∀ X, Good Γ N sc X → PE X e t) ∧ SemV Γ κ t F
structure DT (Γ : Gam) (N : List Str) (sc : Scope) (e : Expr) (F : Env → Option Bool) : Prop where
  ex : ∃ t, (∀ X, Good Γ N sc X → PT X e t) ∧ SemT Γ t F
structure DW (Γ : Gam) (N : List Str) (sc : Scope) (e : Expr) (F : Env → Option Bool) : Prop where
  ex : ∃ t, (∀ X, Good Γ N sc X → PW X e t) ∧ SemT Γ t F
structure DC (Γ : Gam) (N : List Str) (sc : Scope) (e : Expr) (F : Env → Option D) : Prop where
  ex : ∃ t, (∀ X, Good Γ N sc X → PE X e t ∧ PT X e (tTest t)) ∧ SemV Γ .e t F
structure DA (Γ : Gam) (N : List Str) (sc : Scope) (es : List Expr) (F : Env → Option (List D)) : Prop where
  ex : ∃ t, (∀ X, Good Γ N sc X → PA X es t) ∧ SemA Γ t F
section
variable {Γ : Gam} {N : List Str} {sc : Scope} {κ κ1 κ2 : Kd} {G H G' H' G1 H1 : Hp} {v : V} {d : D}
theorem Out.pre (g : Grow G H G1 H1) (h : Out Γ κ G1 H1 G' H' v d) : Out Γ κ G H G' H' v d := by
  cases κ with
  | e => exact h
  | b => exact h
  | f => obtain ⟨a, h1, h2, h3, h4⟩ := h; exact ⟨a, h1, g.h.free h2, h3, h4⟩
theorem Out.b (h : Out Γ κ G H G' H' v d) : RepB Γ.K Γ.C G' H' v d := by
  cases κ with
  | e => exact .inl h
  | b => exact h
  | f => obtain ⟨a, rfl, _, _, h4⟩ := h; exact .inr ⟨a, rfl, h4.r⟩
theorem Out.share (g : Grow G H G' H') (h : Out Γ .f G H G' H' v d) : ∃ G2, Grow G H G2 H' ∧ Rep Γ.K Γ.C G2 v d := by
  obtain ⟨a, rfl, h2, h3, h4⟩ := h
  obtain ⟨o, h5, h6⟩ := h4.shared h3
  exact ⟨_, g.share g.s h5 h3 h2, h6⟩
theorem SemV.toB {t : TE} {F : Env → Option D} (h : SemV Γ κ t F) : SemV Γ .b t F := fun H0 ρ σ G H Q d s E e q => h H0 ρ σ G H Q d s E e fun G' H' v g o => q G' H' v g o.b
theorem SemV.toE {t : TE} {F : Env → Option D} (h : SemV Γ .f t F) : SemV Γ .e t F := fun H0 ρ σ G H Q d s E e q => h H0 ρ σ G H Q d s E e fun G' H' v g o => by
  obtain ⟨G2, g2, r⟩ := o.share g
  exact q G2 H' v g2 r
theorem DV.toB {e : Expr} {F : Env → Option D} (h : DV Γ N sc κ e F) : DV Γ N sc .b e F := let ⟨t, p, s⟩ := h.ex; ⟨t, p, s.toB⟩
theorem DV.toE {e : Expr} {F : Env → Option D} (h : DV Γ N sc .f e F) : DV Γ N sc .e e F := let ⟨t, p, s⟩ := h.ex; ⟨t, p, s.toE⟩
theorem DC.toE {e : Expr} {F : Env → Option D} (h : DC Γ N sc e F) : DV Γ N sc .e e F := let ⟨t, p, s⟩ := h.ex; ⟨t, fun X g => (p X g).1, s⟩
theorem DW.t {e : Expr} {F : Env → Option Bool} (h : DW Γ N sc e F) : DT Γ N sc e F := let ⟨t, p, s⟩ := h.ex; ⟨t, fun X g => (p X g).pt, s⟩
/-! ### combinators -/
def nm (i : Nat) : Env → Option D := fun ρ => match ρ[i]? with
  | some (.sh d) => some d
  | _ => none
def nb (i : Nat) : Env → Option D := fun ρ => match ρ[i]? with
  | some (.sh d) => some d
  | some (.ow d) => some d
  | _ => none
def kc (d : D) : Env → Option D := fun _ => some d
def f1 (g : D → Option D) (a : Env → Option D) : Env → Option D := fun ρ => (a ρ).bind g
def f2 (g : D → D → Option D) (a b : Env → Option D) : Env → Option D := fun ρ => (a ρ).bind fun x => (b ρ).bind fun y => g x y
def fnil : Env → Option (List D) := fun _ => some []
def fcons (a : Env → Option D) (r : Env → Option (List D)) : Env → Option (List D) := fun ρ => (a ρ).bind fun x => (r ρ).bind fun xs => some (x :: xs)
def fN (g : List D → Option D) (a : Env → Option (List D)) : Env → Option D := fun ρ => (a ρ).bind g
def big : Nat := 1000000
theorem big_le : big ≤ sizeLine := by rw [sizeLine_eq]; decide
theorem big_lt {n : Nat} (h : n < big) : n < sizeLine := Nat.lt_of_lt_of_le h big_le
/-! ### names, constants -/
def visB (sc : Scope) (x : Str) : Bool := match sc.names.lookup x with
  | some .local => true
  | some .cell => true
  | some .free => true
  | _ => false
theorem vis_of {x : Str} (h : visB sc x = true) : Vis sc x := by
  unfold visB at h
  split at h
  · exact .inl (by assumption)
  · exact .inr (.inl (by assumption))
  · exact .inr (.inr (by assumption))
  · cases h
def locB (sc : Scope) (x : Str) : Bool := match sc.names.lookup x with
  | some .local => true
  | some .cell => true
  | _ => false
theorem loc_of {x : Str} (h : locB sc x = true) : Loc sc x := by
  unfold locB at h
  split at h
  · exact .inl (by assumption)
  · exact .inr (by assumption)
  · cases h
def lclB (sc : Scope) (x : Str) : Bool := match sc.names.lookup x with
  | some .local => true
  | _ => false
theorem lcl_of {x : Str} (h : lclB sc x = true) : sc.names.lookup x = some .local := by
  unfold lclB at h
  split at h
  · assumption
  · cases h
def glB (sc : Scope) (x : Str) : Bool := match sc.names.lookup x with
  | some .globalImplicit => true
  | _ => false
theorem gl_of {X : Cx} {x : Str} (g : Good Γ N sc X) (h : glB sc x = true) : Gl X x := by
  unfold glB at h
  split at h
  · show X.env.scope.names.lookup x = some .globalImplicit
    rw [g.sc]; assumption
  · cases h
theorem d_nm {i : Nat} {x : Str} {pos : Pos} (hN : N[i]? = some x) (hv : visB sc x = true) (hd : (x == ("__debug__" : Str)) = false) (hcd : (x == ("__classdict__" : Str)) = false) : DV Γ N sc .e (.Name x pos) (nm i) := by
  refine ⟨tVar i, fun X g => pe_var (by rw [g.N]; exact hN) (by rw [g.sc]; exact vis_of hv) hd hcd, fun H0 ρ σ G H Q d s E e q => ?_⟩
  unfold nm at e
  split at e
  · rename_i d' h
    cases e
    obtain ⟨v, h1, h2⟩ := E.sl i _ h
    exact ⟨v, h1, q G H v (Grow.refl s) h2⟩
  · cases e
theorem d_nb {i : Nat} {x : Str} {pos : Pos} (hN : N[i]? = some x) (hv : visB sc x = true) (hd : (x == ("__debug__" : Str)) = false) (hcd : (x == ("__classdict__" : Str)) = false) : DV Γ N sc .b (.Name x pos) (nb i) := by
  refine ⟨tVar i, fun X g => pe_var (by rw [g.N]; exact hN) (by rw [g.sc]; exact vis_of hv) hd hcd, fun H0 ρ σ G H Q d s E e q => ?_⟩
  unfold nb at e
  split at e
  · rename_i d' h
    cases e
    obtain ⟨v, h1, h2⟩ := E.sl i _ h
    exact ⟨v, h1, q G H v (Grow.refl s) (.inl h2)⟩
  · rename_i d' h
    cases e
    obtain ⟨a, h1, _, _, h2⟩ := E.sl i _ h
    exact ⟨_, h1, q G H _ (Grow.refl s) (.inr ⟨a, rfl, h2.r⟩)⟩
  · cases e
theorem d_const {e : Expr} {v : V} {d : D} (p : ∀ X, PE X e (tC v)) (r : ∀ G, Rep Γ.K Γ.C G v d) : DV Γ N sc .e e (kc d) :=
  ⟨tC v, fun X _ => p X, fun H0 ρ σ G H Q d' s E e q => by cases e; exact q G H v (Grow.refl s) (r G)⟩
theorem d_int {i j pos} : DV Γ N sc .e (.Constant (.int i) j pos) (kc (.int i)) := d_const (fun _ => pe_int) fun _ => .int i
theorem d_bl {b j pos} : DV Γ N sc .e (.Constant (.bool b) j pos) (kc (.bl b)) := d_const (fun _ => pe_bl) fun _ => .bl b
theorem d_non {j pos} : DV Γ N sc .e (.Constant .none j pos) (kc .non) := d_const (fun _ => pe_non) fun _ => .non
theorem d_str {x j pos} : DV Γ N sc .e (.Constant (.str x) j pos) (kc (.str x)) := d_const (fun _ => pe_str) fun _ => .str x
/-! ### argument lists, displays -/
theorem a_nil : DA Γ N sc [] fnil := ⟨tNil, fun X _ => pa_nil, fun H0 ρ σ G H Q d s E e q => by cases e; exact q G H [] (Grow.refl s) .nil⟩
theorem a_cons {e : Expr} {es : List Expr} {a : Env → Option D} {r : Env → Option (List D)} (h1 : DV Γ N sc .e e a) (h2 : DA Γ N sc es r)
    (hs : ∀ env : PySem.Env, starEach (e :: es) env = (false, eval e env) :: starEach es env := by intro _; rfl) : DA Γ N sc (e :: es) (fcons a r) := by
  obtain ⟨t1, p1, s1⟩ := h1.ex
  obtain ⟨t2, p2, s2⟩ := h2.ex
  refine ⟨tCons t1 t2, fun X g => pa_cons (p1 X g) (p2 X g) (hs _), fun H0 ρ σ G H Q d s E e q => ?_⟩
  unfold fcons at e
  cases ea : a ρ with
  | none => rw [ea] at e; cases e
  | some x =>
    rw [ea] at e
    cases er : r ρ with
    | none => rw [er] at e; cases e
    | some xs =>
      rw [er] at e
      cases e
      refine s1 H0 ρ σ G H _ x s E ea fun G1 H1 v g1 o1 => ?_
      refine s2 H0 ρ σ G1 H1 _ xs g1.s (E.grow g1) er fun G2 H2 vs g2 o2 => ?_
      exact q G2 H2 _ (g1.trans g2) (.cons (o1.mono g2.g) o2)
def tupD (ds : List D) : Option D := if ds.length < big then some (.tup ds) else none
def lstD (ds : List D) : Option D := if ds.length < big then some (.lst ds) else none
theorem d_tup {es : List Expr} {x1 pos} {a : Env → Option (List D)} (h : DA Γ N sc es a) : DV Γ N sc .e (.Tuple es x1 pos) (fN tupD a) := by
  obtain ⟨t, p, s1⟩ := h.ex
  refine ⟨tTup t, fun X g => pe_tup (p X g), fun H0 ρ σ G H Q d s E e q => ?_⟩
  unfold fN at e
  cases ea : a ρ with
  | none => rw [ea] at e; cases e
  | some ds =>
    rw [ea] at e
    have e : tupD ds = some d := e
    unfold tupD at e
    split at e
    · rename_i hl
      cases e
      refine s1 H0 ρ σ G H _ ds s E ea fun G1 H1 vs g1 o1 => ⟨by rw [o1.length]; exact Nat.le_of_lt (big_lt hl), fun p hp => ?_⟩
      exact q _ _ _ (g1.trans (Grow.new g1.s hp)) (.tup upd_same (o1.mono (SL.new (g1.s.free hp))))
    · cases e
theorem d_lst {es : List Expr} {pos} {a : Env → Option (List D)} (h : DA Γ N sc es a) : DV Γ N sc .f (.List es pos) (fN lstD a) := by
  obtain ⟨t, p, s1⟩ := h.ex
  refine ⟨tLst t, fun X g => pe_lst (p X g), fun H0 ρ σ G H Q d s E e q => ?_⟩
  unfold fN at e
  cases ea : a ρ with
  | none => rw [ea] at e; cases e
  | some ds =>
    rw [ea] at e
    have e : lstD ds = some d := e
    unfold lstD at e
    split at e
    · rename_i hl
      cases e
      refine s1 H0 ρ σ G H _ ds s E ea fun G1 H1 vs g1 o1 => ⟨by rw [o1.length]; exact Nat.le_of_lt (big_lt hl), fun p hp => ?_⟩
      exact q _ _ _ (g1.trans (Grow.newH g1.s hp)) ⟨p, rfl, g1.h.free hp, g1.s.free hp, vs, upd_same, o1⟩
    · cases e
/-! ### operators -/
/-- what an operator by values does -/
def Op2 (Γ : Gam) (κ : Kd) (r : R2) (g : D → D → Option D) : Prop := ∀ (G H : Hp) (x y : V) (d e z : D), SL G H → RepB Γ.K Γ.C G H x d → RepB Γ.K Γ.C G H y e → g d e = some z →
  ∀ Q : VK, (∀ (G' H' : Hp) (u : V), Grow G H G' H' → Out Γ κ G H G' H' u z → Q u H') → r x y H Q
theorem sem_op {r : R2} {g : D → D → Option D} {ta tb : TE} {a b : Env → Option D} (h : Op2 Γ κ r g) (sa : SemV Γ κ1 ta a) (sb : SemV Γ κ2 tb b) : SemV Γ κ (tOp r ta tb) (f2 g a b) := fun H0 ρ σ G H Q z s E e q => by
  unfold f2 at e
  cases ea : a ρ with
  | none => rw [ea] at e; cases e
  | some x =>
    rw [ea] at e
    cases eb : b ρ with
    | none => rw [eb] at e; cases e
    | some y =>
      rw [eb] at e
      refine sa H0 ρ σ G H _ x s E ea fun G1 H1 v g1 o1 => ?_
      refine sb H0 ρ σ G1 H1 _ y g1.s (E.grow g1) eb fun G2 H2 w g2 o2 => ?_
      exact h G2 H2 v w x y z g2.s (o1.b.mono g2.g g2.h) o2.b e Q fun G3 H3 u g3 o3 => q G3 H3 u ((g1.trans g2).trans g3) (o3.pre (g1.trans g2))
theorem d_op {op : Operator} {r : R2} {g : D → D → Option D} {ea eb : Expr} {a b : Env → Option D} {pos : Pos} (ho : ∀ X, Good Γ N sc X → OpR X (binaryOp op) r) (h : Op2 Γ κ r g) (ha : DV Γ N sc κ1 ea a) (hb : DV Γ N sc κ2 eb b) :
    DV Γ N sc κ (.BinOp ea op eb pos) (f2 g a b) := by
  obtain ⟨ta, pa, sa⟩ := ha.ex
  obtain ⟨tb, pb, sb⟩ := hb.ex
  exact ⟨_, fun X gX => pe_op (ho X gX) (pa X gX) (pb X gX), sem_op h sa sb⟩
theorem d_cmp {op : CmpOp} {r : R2} {g : D → D → Option D} {ea eb : Expr} {a b : Env → Option D} {pos : Pos} (ho : ∀ X, Good Γ N sc X → OpR X (compareOp op) r) (h : Op2 Γ .e r g) (ha : DV Γ N sc κ1 ea a) (hb : DV Γ N sc κ2 eb b)
    (hm : behindInMarks op eb = false) : DC Γ N sc (.Compare ea [op] [eb] pos) (f2 g a b) := by
  obtain ⟨ta, pa, sa⟩ := ha.ex
  obtain ⟨tb, pb, sb⟩ := hb.ex
  exact ⟨_, fun X gX => ⟨pe_cmpR (ho X gX) (pa X gX) (pb X gX) hm, pt_cmpR (ho X gX) (pa X gX) (pb X gX) hm⟩, sem_op h sa sb⟩
section
variable {x y : V} {e z : D} {Q : VK}
def subD : D → D → Option D
  | .int i, .int j => some (.int (i - j))
  | _, _ => none
def fdivD : D → D → Option D
  | .int i, .int j => if 0 < j ∧ j < 2 ^ 64 then some (.int (i / j)) else none
  | _, _ => none
def modD : D → D → Option D
  | .int i, .int j => if 0 < j then some (.int (i % j)) else none
  | _, _ => none
def addD : D → D → Option D
  | .int i, .int j => some (.int (i + j))
  | .str i, .str j => if i.length + j.length < big then some (.str (i ++ j)) else none
  | .tup i, .tup j => if i.length + j.length < big then some (.tup (i ++ j)) else none
  | .lst i, .lst j => if i.length + j.length < big then some (.lst (i ++ j)) else none
  | _, _ => none
def catD : D → D → Option D
  | .lst i, .lst j => if i.length + j.length < big then some (.lst (i ++ j)) else none
  | _, _ => none
def mulD : D → D → Option D
  | .int i, .int j => if i.natAbs < 2 ^ 64 ∨ j.natAbs < 2 ^ 64 then some (.int (i * j)) else none
  | .tup xs, .int k => if xs ≠ [] ∧ 2 ≤ k ∧ k ≤ 1000 ∧ xs.length ≤ 1000 then some (.tup (List.replicate k.toNat xs).flatten) else none
  | _, _ => none
def shlD : D → D → Option D
  | .int i, .int j => if 0 ≤ j ∧ j ≤ 1000 ∧ i.natAbs < 2 ^ 64 then some (.int (i * 2 ^ j.toNat)) else none
  | _, _ => none
def shrD : D → D → Option D
  | .int i, .int j => if 0 ≤ j then some (.int (i / 2 ^ j.toNat)) else none
  | _, _ => none
def bandD : D → D → Option D
  | .int i, .int j => some (.int (Builtin.bitAnd i j))
  | _, _ => none
def ltD : D → D → Option D
  | .int i, .int j => some (.bl (decide (i < j)))
  | _, _ => none
def leD : D → D → Option D
  | .int i, .int j => some (.bl (decide (i ≤ j)))
  | _, _ => none
def gtD : D → D → Option D
  | .int i, .int j => some (.bl (decide (j < i)))
  | _, _ => none
def geD : D → D → Option D
  | .int i, .int j => some (.bl (decide (j ≤ i)))
  | _, _ => none
theorem op2_int0 {f : Int → Int → V} {g : D → D → Option D} {k : Int → Int → D} (hk : ∀ i j G, Rep Γ.K Γ.C G (f i j) (k i j)) (hg : ∀ d e z, g d e = some z → ∃ i j, d = .int i ∧ e = .int j ∧ z = k i j) : Op2 Γ .e (rI0 f) g := by
  intro G H x y d e z s rx ry h Q q
  obtain ⟨i, j, rfl, rfl, rfl⟩ := hg d e z h
  exact ⟨i, j, rx.int, ry.int, q G H _ (Grow.refl s) (hk i j G)⟩
theorem op2_int {f : Int → Int → V} {P : Int → Int → Prop} {g : D → D → Option D} {k : Int → Int → D} (hk : ∀ i j G, Rep Γ.K Γ.C G (f i j) (k i j)) (hg : ∀ d e z, g d e = some z → ∃ i j, d = .int i ∧ e = .int j ∧ z = k i j ∧ P i j) : Op2 Γ .e (rI P f) g := by
  intro G H x y d e z s rx ry h Q q
  obtain ⟨i, j, rfl, rfl, rfl, hp⟩ := hg d e z h
  exact ⟨i, j, rx.int, ry.int, hp, q G H _ (Grow.refl s) (hk i j G)⟩
theorem Op2.orL {r r' : R2} {g : D → D → Option D} (h : Op2 Γ κ r g) : Op2 Γ κ (fun x y H Q => r x y H Q ∨ r' x y H Q) g := fun G H x y d e z s rx ry h1 Q q => .inl (h G H x y d e z s rx ry h1 Q q)
theorem o_sub : Op2 Γ .e (rI0 fun i j => .int (i - j)) subD := op2_int0 (k := fun i j => .int (i - j)) (fun _ _ _ => .int _) fun d e z h => by
  unfold subD at h; split at h
  · cases h; exact ⟨_, _, rfl, rfl, rfl⟩
  · cases h
theorem o_lt : Op2 Γ .e (rI0 fun i j => .bl (decide (i < j))) ltD := op2_int0 (k := fun i j => .bl (decide (i < j))) (fun _ _ _ => .bl _) fun d e z h => by
  unfold ltD at h; split at h
  · cases h; exact ⟨_, _, rfl, rfl, rfl⟩
  · cases h
theorem o_le : Op2 Γ .e (rI0 fun i j => .bl (decide (i ≤ j))) leD := op2_int0 (k := fun i j => .bl (decide (i ≤ j))) (fun _ _ _ => .bl _) fun d e z h => by
  unfold leD at h; split at h
  · cases h; exact ⟨_, _, rfl, rfl, rfl⟩
  · cases h
theorem o_gt : Op2 Γ .e (rI0 fun i j => .bl (decide (j < i))) gtD := op2_int0 (k := fun i j => .bl (decide (j < i))) (fun _ _ _ => .bl _) fun d e z h => by
  unfold gtD at h; split at h
  · cases h; exact ⟨_, _, rfl, rfl, rfl⟩
  · cases h
theorem o_ge : Op2 Γ .e (rI0 fun i j => .bl (decide (j ≤ i))) geD := op2_int0 (k := fun i j => .bl (decide (j ≤ i))) (fun _ _ _ => .bl _) fun d e z h => by
  unfold geD at h; split at h
  · cases h; exact ⟨_, _, rfl, rfl, rfl⟩
  · cases h
theorem o_band : Op2 Γ .e (rI0 fun i j => .int (Builtin.bitAnd i j)) bandD := op2_int0 (k := fun i j => .int (Builtin.bitAnd i j)) (fun _ _ _ => .int _) fun d e z h => by
  unfold bandD at h; split at h
  · cases h; exact ⟨_, _, rfl, rfl, rfl⟩
  · cases h
theorem log2_small {j : Int} (h0 : 0 < j) (h : j < 2 ^ 64) : j.natAbs.log2 < 9000 := by
  have h1 : j.natAbs < 2 ^ 64 := by omega
  have h2 : j.natAbs ≠ 0 := by omega
  have h3 : j.natAbs.log2 < 64 := (Nat.log2_lt h2).mpr h1
  omega
theorem o_fdiv : Op2 Γ .e (rI CDivW fun i j => .int (i / j)) fdivD := op2_int (k := fun i j => .int (i / j)) (fun _ _ _ => .int _) fun d e z h => by
  unfold fdivD at h; split at h
  · split at h
    · rename_i hc
      cases h; exact ⟨_, _, rfl, rfl, rfl, hc.1, log2_small hc.1 hc.2⟩
    · cases h
  · cases h
theorem o_mod : Op2 Γ .e (rI (fun _ j => 0 < j) fun i j => .int (i % j)) modD := op2_int (k := fun i j => .int (i % j)) (fun _ _ _ => .int _) fun d e z h => by
  unfold modD at h; split at h
  · split at h
    · rename_i hc
      cases h; exact ⟨_, _, rfl, rfl, rfl, hc⟩
    · cases h
  · cases h
theorem o_shl : Op2 Γ .e (rI CPow fun i j => .int (i * 2 ^ j.toNat)) shlD := op2_int (k := fun i j => .int (i * 2 ^ j.toNat)) (fun _ _ _ => .int _) fun d e z h => by
  unfold shlD at h; split at h
  · split at h
    · rename_i hc
      cases h; exact ⟨_, _, rfl, rfl, rfl, hc.1, by omega, hc.2.2⟩
    · cases h
  · cases h
theorem o_shr : Op2 Γ .e (rI (fun _ j => 0 ≤ j) fun i j => .int (i / 2 ^ j.toNat)) shrD := op2_int (k := fun i j => .int (i / 2 ^ j.toNat)) (fun _ _ _ => .int _) fun d e z h => by
  unfold shrD at h; split at h
  · split at h
    · rename_i hc
      cases h; exact ⟨_, _, rfl, rfl, rfl, hc⟩
    · cases h
  · cases h
theorem RepL.ne_nil {K : PySem.W.Frag} {C : Addr} {G : Hp} {vs : List V} {ds : List D} (h : RepL K C G vs ds) : vs = [] ↔ ds = [] := by
  cases h <;> simp
theorem RepL.flat {K : PySem.W.Frag} {C : Addr} {G : Hp} {vs : List V} {ds : List D} (h : RepL K C G vs ds) : ∀ n : Nat, RepL K C G (List.replicate n vs).flatten (List.replicate n ds).flatten
  | 0 => .nil
  | n + 1 => by
    rw [List.replicate_succ, List.replicate_succ, List.flatten_cons, List.flatten_cons]
    exact h.app (h.flat n)
abbrev rMulA (K : PySem.W.Frag) : R2 := fun x y H Q => (rI CMul fun i j => .int (i * j)) x y H Q ∨ rRepT K x y H Q
theorem o_mul : Op2 Γ .e (rMulA Γ.K) mulD := by
  intro G H x y d e z s rx ry h Q q
  unfold mulD at h
  split at h
  · split at h
    · rename_i i j hc
      cases h
      refine .inl ⟨i, j, rx.int, ry.int, ?_, q G H _ (Grow.refl s) (.int _)⟩
      show (-(2 ^ 64) < i ∧ i < 2 ^ 64) ∨ (-(2 ^ 64) < j ∧ j < 2 ^ 64)
      omega
    · cases h
  · split at h
    · rename_i xs k hc
      cases h
      obtain ⟨a, vs, rfl, h1, h2⟩ := rx.tup
      refine .inr ⟨a, k, vs, rfl, ry.int, SqT.of (s.tup h1), fun e => hc.1 (h2.ne_nil.mp e), hc.2.1, hc.2.2.1, by rw [h2.length]; exact hc.2.2.2, fun p hp => ?_⟩
      exact q _ _ _ (Grow.new s hp) (.tup upd_same ((h2.flat _).mono (SL.new (s.free hp))))
    · cases h
  · cases h
abbrev rAddA (K : PySem.W.Frag) : R2 := fun x y H Q => (fun x y H Q => (rI0 fun i j => .int (i + j)) x y H Q ∨ (fun (x y : V) (H : Hp) (Q : VK) => ∃ i j, x = V.str i ∧ y = V.str j ∧ i.length + j.length ≤ sizeLine ∧ Q (.str (i ++ j)) H) x y H Q) x y H Q ∨ (fun x y H Q => rCatA K x y H Q ∨ rCat x y H Q) x y H Q
theorem o_add : Op2 Γ .e (rAddA Γ.K) addD := by
  intro G H x y d e z s rx ry h Q q
  unfold addD at h
  split at h
  · rename_i i j
    cases h
    exact .inl (.inl ⟨i, j, rx.int, ry.int, q G H _ (Grow.refl s) (.int _)⟩)
  · split at h
    · rename_i i j hc
      cases h
      exact .inl (.inr ⟨i, j, rx.str, ry.str, Nat.le_of_lt (big_lt hc), q G H _ (Grow.refl s) (.str _)⟩)
    · cases h
  · split at h
    · rename_i xs ys hc
      cases h
      obtain ⟨a, vs, rfl, h1, h2⟩ := rx.tup
      obtain ⟨b, ws, rfl, h3, h4⟩ := ry.tup
      refine .inr (.inl ⟨a, b, vs, ws, rfl, rfl, SqT.of (s.tup h1), SqT.of (s.tup h3), by rw [h2.length, h4.length]; exact Nat.le_of_lt (big_lt hc), fun e => ?_, fun _ e => ?_, fun _ _ p hp => ?_⟩)
      · have := h2.ne_nil.mp e
        subst this
        exact q G H _ (Grow.refl s) (.tup h3 h4)
      · have := h4.ne_nil.mp e
        subst this
        rw [List.append_nil] at q
        exact q G H _ (Grow.refl s) (.tup h1 h2)
      · exact q _ _ _ (Grow.new s hp) (.tup upd_same ((h2.app h4).mono (SL.new (s.free hp))))
    · cases h
  · split at h
    · rename_i xs ys hc
      cases h
      obtain ⟨a, vs, rfl, h1, h2⟩ := rx.lst s
      obtain ⟨b, ws, rfl, h3, h4⟩ := ry.lst s
      refine .inr (.inr ⟨a, b, vs, ws, rfl, rfl, h1, h3, by rw [h2.length, h4.length]; exact Nat.le_of_lt (big_lt hc), fun p hp => ?_⟩)
      exact q _ _ _ (Grow.new s hp) (.lst upd_same ((h2.app h4).mono (SL.new (s.free hp))))
    · cases h
  · cases h
theorem o_cat : Op2 Γ .f rCat catD := by
  intro G H x y d e z s rx ry h Q q
  unfold catD at h
  split at h
  · split at h
    · rename_i xs ys hc
      cases h
      obtain ⟨a, vs, rfl, h1, h2⟩ := rx.lst s
      obtain ⟨b, ws, rfl, h3, h4⟩ := ry.lst s
      refine ⟨a, b, vs, ws, rfl, rfl, h1, h3, by rw [h2.length, h4.length]; exact Nat.le_of_lt (big_lt hc), fun p hp => ?_⟩
      exact q _ _ _ (Grow.newH s hp) ⟨p, rfl, hp, s.free hp, _, upd_same, h2.app h4⟩
    · cases h
  · cases h
end
section
variable {ea eb : Expr} {a b : Env → Option D} {pos : Pos}
theorem d_add (ha : DV Γ N sc κ1 ea a) (hb : DV Γ N sc κ2 eb b) : DV Γ N sc .e (.BinOp ea .Add eb pos) (f2 addD a b) := d_op (fun X g => g.K ▸ (op_add.or op_add_str).or (op_catA.or op_cat)) o_add ha hb
theorem d_cat (ha : DV Γ N sc κ1 ea a) (hb : DV Γ N sc κ2 eb b) : DV Γ N sc .f (.BinOp ea .Add eb pos) (f2 catD a b) := d_op (fun X g => op_cat) o_cat ha hb
theorem d_sub (ha : DV Γ N sc κ1 ea a) (hb : DV Γ N sc κ2 eb b) : DV Γ N sc .e (.BinOp ea .Sub eb pos) (f2 subD a b) := d_op (fun X g => op_sub) o_sub ha hb
theorem d_mul (ha : DV Γ N sc κ1 ea a) (hb : DV Γ N sc κ2 eb b) : DV Γ N sc .e (.BinOp ea .Mult eb pos) (f2 mulD a b) := d_op (fun X g => g.K ▸ op_mul.or op_repT) o_mul ha hb
theorem d_fdiv (ha : DV Γ N sc κ1 ea a) (hb : DV Γ N sc κ2 eb b) : DV Γ N sc .e (.BinOp ea .FloorDiv eb pos) (f2 fdivD a b) := d_op (fun X g => op_fdivW) o_fdiv ha hb
theorem d_mod (ha : DV Γ N sc κ1 ea a) (hb : DV Γ N sc κ2 eb b) : DV Γ N sc .e (.BinOp ea .Mod eb pos) (f2 modD a b) := d_op (fun X g => op_mod) o_mod ha hb
theorem d_shl (ha : DV Γ N sc κ1 ea a) (hb : DV Γ N sc κ2 eb b) : DV Γ N sc .e (.BinOp ea .LShift eb pos) (f2 shlD a b) := d_op (fun X g => op_shl) o_shl ha hb
theorem d_shr (ha : DV Γ N sc κ1 ea a) (hb : DV Γ N sc κ2 eb b) : DV Γ N sc .e (.BinOp ea .RShift eb pos) (f2 shrD a b) := d_op (fun X g => op_shr) o_shr ha hb
theorem d_band (ha : DV Γ N sc κ1 ea a) (hb : DV Γ N sc κ2 eb b) : DV Γ N sc .e (.BinOp ea .BitAnd eb pos) (f2 bandD a b) := d_op (fun X g => op_and) o_band ha hb
theorem d_lt (ha : DV Γ N sc κ1 ea a) (hb : DV Γ N sc κ2 eb b) : DC Γ N sc (.Compare ea [.Lt] [eb] pos) (f2 ltD a b) := d_cmp (fun X g => op_lt) o_lt ha hb (nobehind _ (by decide) (by decide))
theorem d_le (ha : DV Γ N sc κ1 ea a) (hb : DV Γ N sc κ2 eb b) : DC Γ N sc (.Compare ea [.LtE] [eb] pos) (f2 leD a b) := d_cmp (fun X g => op_le) o_le ha hb (nobehind _ (by decide) (by decide))
theorem d_gt (ha : DV Γ N sc κ1 ea a) (hb : DV Γ N sc κ2 eb b) : DC Γ N sc (.Compare ea [.Gt] [eb] pos) (f2 gtD a b) := d_cmp (fun X g => op_gt) o_gt ha hb (nobehind _ (by decide) (by decide))
theorem d_ge (ha : DV Γ N sc κ1 ea a) (hb : DV Γ N sc κ2 eb b) : DC Γ N sc (.Compare ea [.GtE] [eb] pos) (f2 geD a b) := d_cmp (fun X g => op_ge) o_ge ha hb (nobehind _ (by decide) (by decide))
end
end
end Pv
set_option Elab.async false
set_option linter.all false
set_option maxRecDepth 100000
set_option maxHeartbeats 4000000
set_option autoImplicit false
namespace Pv
open PySem PySem.Spec PyProof.Rows L2
section
variable {Γ : Gam} {N : List Str} {sc : Scope} {κ κ1 κ2 κ3 : Kd} {G H G' H' G1 H1 : Hp} {v : V} {d : D}
/-! ### == of data -/
def okD : Nat → D → Bool
  | 0, _ => false
  | _ + 1, .non => true
  | _ + 1, .bl _ => true
  | _ + 1, .int _ => true
  | n + 1, .tup xs => xs.all (okD n)
  | n + 1, .lst xs => xs.all (okD n)
  | _ + 1, _ => false
def eqL (f : D → D → Bool) : List D → List D → Bool
  | [], [] => true
  | x :: xs, y :: ys => f x y && eqL f xs ys
  | _, _ => false
def eqN : Nat → D → D → Bool
  | 0, _, _ => false
  | _ + 1, .non, .non => true
  | _ + 1, .bl a, .bl b => a == b
  | _ + 1, .bl a, .int j => (if a then 1 else 0) == j
  | _ + 1, .int i, .bl b => i == (if b then 1 else 0)
  | _ + 1, .int i, .int j => i == j
  | n + 1, .tup xs, .tup ys => eqL (eqN n) xs ys
  | n + 1, .lst xs, .lst ys => eqL (eqN n) xs ys
  | _ + 1, _, _ => false
def py : Nat → D → PyData
  | 0, _ => .none
  | _ + 1, .bl b => .bool b
  | _ + 1, .int i => .int i
  | n + 1, .tup xs => .tuple (xs.map (py n))
  | n + 1, .lst xs => .list (xs.map (py n))
  | _ + 1, _ => .none
theorem py_shape : ∀ (n : Nat) (d : D), okD n d = true → (py n d).canLay0 = true ∧ (py n d).depth ≤ n := by
  intro n
  induction n with
  | zero => intro d h; cases h
  | succ n ih =>
    have all : ∀ xs : List D, xs.all (okD n) = true → PyData.canLayAll0 (xs.map (py n)) = true ∧ PyData.depthAll (xs.map (py n)) ≤ n := by
      intro xs
      induction xs with
      | nil => intro _; exact ⟨rfl, Nat.zero_le _⟩
      | cons x xs ihx =>
        intro h
        rw [List.all_cons, Bool.and_eq_true] at h
        obtain ⟨h1, h2⟩ := ih x h.1
        obtain ⟨h3, h4⟩ := ihx h.2
        refine ⟨?_, ?_⟩
        · show (PyData.canLay0 (py n x) && PyData.canLayAll0 (xs.map (py n))) = true
          rw [h1, h3]; rfl
        · show max (PyData.depth (py n x)) (PyData.depthAll (xs.map (py n))) ≤ n
          omega
    intro d h
    cases d with
    | non => exact ⟨rfl, Nat.zero_le _⟩
    | bl b => exact ⟨rfl, Nat.zero_le _⟩
    | int i => exact ⟨rfl, Nat.zero_le _⟩
    | tup xs => obtain ⟨h1, h2⟩ := all xs h; exact ⟨h1, Nat.succ_le_succ h2⟩
    | lst xs => obtain ⟨h1, h2⟩ := all xs h; exact ⟨h1, Nat.succ_le_succ h2⟩
    | _ => cases h
theorem py_eqv : ∀ (n : Nat) (d e : D), okD n d = true → okD n e = true → PyData.eqv (py n d) (py n e) = eqN n d e := by
  intro n
  induction n with
  | zero => intro d e h; cases h
  | succ n ih =>
    have all : ∀ xs ys : List D, xs.all (okD n) = true → ys.all (okD n) = true → PyData.eqvAll (xs.map (py n)) (ys.map (py n)) = eqL (eqN n) xs ys := by
      intro xs
      induction xs with
      | nil => intro ys _ _; cases ys <;> rfl
      | cons x xs ihx =>
        intro ys h k
        cases ys with
        | nil => rfl
        | cons y ys =>
          rw [List.all_cons, Bool.and_eq_true] at h k
          show (PyData.eqv (py n x) (py n y) && PyData.eqvAll (xs.map (py n)) (ys.map (py n))) = (eqN n x y && eqL (eqN n) xs ys)
          rw [ih x y h.1 k.1, ihx ys h.2 k.2]
    intro d e h k
    cases d <;> cases e <;> first | rfl | exact absurd (show false = true from h) Bool.false_ne_true | exact absurd (show false = true from k) Bool.false_ne_true | exact all _ _ h k
theorem py_dp (s : SL G H) : ∀ (n : Nat) (d : D) (v : V), okD n d = true → Rep Γ.K Γ.C G v d → Dp Γ.K H v (py n d) := by
  intro n
  induction n with
  | zero => intro d v h; cases h
  | succ n ih =>
    have all : ∀ (xs : List D) (vs : List V), xs.all (okD n) = true → RepL Γ.K Γ.C G vs xs → DpAll Γ.K H vs (xs.map (py n)) := by
      intro xs
      induction xs with
      | nil => intro vs _ r; cases r; exact .nil
      | cons x xs ihx =>
        intro vs h r
        rw [List.all_cons, Bool.and_eq_true] at h
        cases r with
        | cons r1 r2 => exact .cons (ih x _ h.1 r1) (ihx _ h.2 r2)
    intro d v h r
    cases r with
    | non => exact .non
    | bl b => exact .bl b
    | int i => exact .int i
    | tup h1 h2 => exact .tup (SqT.of (s.tup h1)) (all _ _ h h2)
    | lst h1 h2 => exact .lst (SqL.of (s.lst h1)) (all _ _ h h2)
    | _ => cases h
theorem py_dpAll (s : SL G H) (n : Nat) : ∀ (xs : List D) (vs : List V), xs.all (okD n) = true → RepL Γ.K Γ.C G vs xs → DpAll Γ.K H vs (xs.map (py n)) := by
  intro xs
  induction xs with
  | nil => intro vs _ r; cases r; exact .nil
  | cons x xs ihx =>
    intro vs h r
    rw [List.all_cons, Bool.and_eq_true] at h
    cases r with
    | cons r1 r2 => exact .cons (py_dp s n x _ h.1 r1) (ihx _ h.2 r2)
theorem py_dpB (s : SL G H) {n : Nat} (h : okD n d = true) (r : RepB Γ.K Γ.C G H v d) : Dp Γ.K H v (py n d) := by
  rcases r with r | ⟨a, rfl, r⟩
  · exact py_dp s n d v h r
  · cases n with
    | zero => cases h
    | succ n =>
      cases d <;> try exact r.elim
      · obtain ⟨vs, h1, h2⟩ := r
        exact .lst (SqL.of h1) (py_dpAll s n _ vs h h2)
      · exact absurd (show false = true from h) Bool.false_ne_true
      · exact absurd (show false = true from h) Bool.false_ne_true
theorem py_shaped {n : Nat} (hn : n ≤ 60) (h : okD n d = true) : SeqAt.shaped (py n d) = true := by
  obtain ⟨h1, h2⟩ := py_shape n d h
  unfold SeqAt.shaped
  rw [h1, decide_eq_true (Nat.le_trans h2 (by omega))]
  rfl
def sclD : D → D → Bool
  | .str _, .str _ => true | .non, .str _ => true | .str _, .non => true | .int _, .str _ => true | .str _, .int _ => true
  | _, _ => false
def sclE : D → D → Bool
  | .str x, .str y => decide (x = y)
  | _, _ => false
def eqD (d e : D) : Option D := if sclD d e then some (.bl (sclE d e)) else if okD 8 d && okD 8 e then some (.bl (eqN 8 d e)) else none
def neD (d e : D) : Option D := if sclD d e then some (.bl (!sclE d e)) else if okD 8 d && okD 8 e then some (.bl (!eqN 8 d e)) else none
theorem scl_ok {d e : D} {x y : V} (h : sclD d e = true) (rx : RepB Γ.K Γ.C G H x d) (ry : RepB Γ.K Γ.C G H y e) : scal x y = true ∧ decide (x = y) = sclE d e := by
  cases d <;> cases e <;> first | cases h | skip
  · rw [rx.non, ry.str]; exact ⟨rfl, rfl⟩
  · rw [rx.int, ry.str]; exact ⟨rfl, rfl⟩
  · rw [rx.str, ry.non]; exact ⟨rfl, rfl⟩
  · rw [rx.str, ry.int]; exact ⟨rfl, rfl⟩
  · rw [rx.str, ry.str]
    refine ⟨rfl, ?_⟩
    rename_i a b
    show decide (V.str a = V.str b) = decide (a = b)
    by_cases q : a = b
    · rw [q, decide_eq_true rfl, decide_eq_true rfl]
    · rw [decide_eq_false q, decide_eq_false fun z => q (V.str.inj z)]
abbrev rEqA (K : PySem.W.Frag) : R2 := fun x y H Q => rEq x y H Q ∨ rEqD K x y H Q
abbrev rNeA (K : PySem.W.Frag) : R2 := fun x y H Q => rNe x y H Q ∨ rNeD K x y H Q
theorem o_eq : Op2 Γ .e (rEqA Γ.K) eqD := by
  intro G H x y d e z s rx ry h Q q
  unfold eqD at h
  split at h
  · rename_i hc
    cases h
    obtain ⟨h1, h2⟩ := scl_ok hc rx ry
    exact .inl ⟨h1, by rw [h2]; exact q G H _ (Grow.refl s) (.bl _)⟩
  · split at h
    · rename_i hc
      cases h
      rw [Bool.and_eq_true] at hc
      refine .inr ⟨_, _, py_dpB s hc.1 rx, py_dpB s hc.2 ry, py_shaped (by omega) hc.1, py_shaped (by omega) hc.2, ?_⟩
      rw [py_eqv 8 d e hc.1 hc.2]
      exact q G H _ (Grow.refl s) (.bl _)
    · cases h
theorem o_ne : Op2 Γ .e (rNeA Γ.K) neD := by
  intro G H x y d e z s rx ry h Q q
  unfold neD at h
  split at h
  · rename_i hc
    cases h
    obtain ⟨h1, h2⟩ := scl_ok hc rx ry
    exact .inl ⟨h1, by rw [h2]; exact q G H _ (Grow.refl s) (.bl _)⟩
  · split at h
    · rename_i hc
      cases h
      rw [Bool.and_eq_true] at hc
      refine .inr ⟨_, _, py_dpB s hc.1 rx, py_dpB s hc.2 ry, py_shaped (by omega) hc.1, py_shaped (by omega) hc.2, ?_⟩
      rw [py_eqv 8 d e hc.1 hc.2]
      exact q G H _ (Grow.refl s) (.bl _)
    · cases h
theorem d_eq {ea eb : Expr} {a b : Env → Option D} {pos : Pos} (ha : DV Γ N sc κ1 ea a) (hb : DV Γ N sc κ2 eb b) : DC Γ N sc (.Compare ea [.Eq] [eb] pos) (f2 eqD a b) :=
  d_cmp (fun X g => g.K ▸ op_eq.or (op_eqD g.room.units)) o_eq ha hb (nobehind _ (by decide) (by decide))
theorem d_ne {ea eb : Expr} {a b : Env → Option D} {pos : Pos} (ha : DV Γ N sc κ1 ea a) (hb : DV Γ N sc κ2 eb b) : DC Γ N sc (.Compare ea [.NotEq] [eb] pos) (f2 neD a b) :=
  d_cmp (fun X g => g.K ▸ op_ne.or (op_neD g.room.units)) o_ne ha hb (nobehind _ (by decide) (by decide))
/-! ### is -/
def nonB : D → Bool
  | .non => true
  | _ => false
def isD : D → D → Option D
  | .bl a, .bl b => some (.bl (decide (a = b)))
  | d, .non => some (.bl (nonB d))
  | _, _ => none
def isntD : D → D → Option D
  | .bl a, .bl b => some (.bl (!decide (a = b)))
  | d, .non => some (.bl (!nonB d))
  | _, _ => none
theorem nonB_ok {x : V} (r : RepB Γ.K Γ.C G H x d) : decide (x = .non) = nonB d := by
  rcases r with r | ⟨a, rfl, r⟩
  · cases r <;> rfl
  · cases d <;> first | rfl | exact r.elim
abbrev rIsA : R2 := fun x y H Q => rIsB x y H Q ∨ (fun (x y : V) (H : Hp) (Q : VK) => y = .non ∧ Q (.bl (decide (x = .non))) H) x y H Q
abbrev rNtA : R2 := fun x y H Q => rNotB x y H Q ∨ (fun (x y : V) (H : Hp) (Q : VK) => y = .non ∧ Q (.bl (!decide (x = .non))) H) x y H Q
theorem o_is : Op2 Γ .e rIsA isD := by
  intro G H x y d e z s rx ry h Q q
  unfold isD at h
  split at h
  · cases h
    exact .inl ⟨_, _, rx.bl, ry.bl, q G H _ (Grow.refl s) (.bl _)⟩
  · cases h
    exact .inr ⟨ry.non, by rw [nonB_ok rx]; exact q G H _ (Grow.refl s) (.bl _)⟩
  · cases h
theorem o_isnt : Op2 Γ .e rNtA isntD := by
  intro G H x y d e z s rx ry h Q q
  unfold isntD at h
  split at h
  · cases h
    exact .inl ⟨_, _, rx.bl, ry.bl, q G H _ (Grow.refl s) (.bl _)⟩
  · cases h
    exact .inr ⟨ry.non, by rw [nonB_ok rx]; exact q G H _ (Grow.refl s) (.bl _)⟩
  · cases h
theorem d_is {ea eb : Expr} {a b : Env → Option D} {pos : Pos} (ha : DV Γ N sc κ1 ea a) (hb : DV Γ N sc κ2 eb b) : DC Γ N sc (.Compare ea [.Is] [eb] pos) (f2 isD a b) :=
  d_cmp (fun X g => op_isBl.or op_isN) o_is ha hb (nobehind _ (by decide) (by decide))
theorem d_isnt {ea eb : Expr} {a b : Env → Option D} {pos : Pos} (ha : DV Γ N sc κ1 ea a) (hb : DV Γ N sc κ2 eb b) : DC Γ N sc (.Compare ea [.IsNot] [eb] pos) (f2 isntD a b) :=
  d_cmp (fun X g => op_notBl.or op_notN) o_isnt ha hb (nobehind _ (by decide) (by decide))
/-! ### lists of ints, of truths -/
def asInts : List D → Option (List Int)
  | [] => some []
  | .int i :: r => (asInts r).bind fun ns => some (i :: ns)
  | _ :: _ => none
theorem asInts_eq : ∀ {ds : List D} {ns : List Int}, asInts ds = some ns → ds = ns.map D.int
  | [], ns, h => by cases h; rfl
  | d :: ds, ns, h => by
    cases d <;> try cases h
    unfold asInts at h
    cases q : asInts ds with
    | none => rw [q] at h; cases h
    | some ms => rw [q] at h; cases h; rw [asInts_eq q]; rfl
theorem asInts_map : ∀ ns : List Int, asInts (ns.map D.int) = some ns
  | [] => rfl
  | n :: ns => by
    show (asInts (ns.map D.int)).bind _ = _
    rw [asInts_map ns]; rfl
def asBls : List D → Option (List Bool)
  | [] => some []
  | .bl i :: r => (asBls r).bind fun ns => some (i :: ns)
  | _ :: _ => none
theorem asBls_eq : ∀ {ds : List D} {ns : List Bool}, asBls ds = some ns → ds = ns.map D.bl
  | [], ns, h => by cases h; rfl
  | d :: ds, ns, h => by
    cases d <;> try cases h
    unfold asBls at h
    cases q : asBls ds with
    | none => rw [q] at h; cases h
    | some ms => rw [q] at h; cases h; rw [asBls_eq q]; rfl
theorem asBls_map : ∀ ns : List Bool, asBls (ns.map D.bl) = some ns
  | [] => rfl
  | n :: ns => by
    show (asBls (ns.map D.bl)).bind _ = _
    rw [asBls_map ns]; rfl
def asStrs : List D → Option (List Str)
  | [] => some []
  | .str i :: r => (asStrs r).bind fun ns => some (i :: ns)
  | _ :: _ => none
theorem asStrs_eq : ∀ {ds : List D} {ns : List Str}, asStrs ds = some ns → ds = ns.map D.str
  | [], ns, h => by cases h; rfl
  | d :: ds, ns, h => by
    cases d <;> try cases h
    unfold asStrs at h
    cases q : asStrs ds with
    | none => rw [q] at h; cases h
    | some ms => rw [q] at h; cases h; rw [asStrs_eq q]; rfl
theorem asStrs_map : ∀ ns : List Str, asStrs (ns.map D.str) = some ns
  | [] => rfl
  | n :: ns => by
    show (asStrs (ns.map D.str)).bind _ = _
    rw [asStrs_map ns]; rfl
/-! ### dicts -/
def getK {κ : Type} [DecidableEq κ] (kds : List (κ × D)) (k : κ) : Option D := (kds.find? fun p => decide (p.1 = k)).map Prod.snd
def putD {κ : Type} [DecidableEq κ] (kds : List (κ × D)) (k : κ) (d : D) : List (κ × D) :=
  if kds.any (fun p => decide (p.1 = k)) then kds.map (fun p => if p.1 = k then (k, d) else p) else kds ++ [(k, d)]
theorem getK_val {κ μ : Type} [DecidableEq κ] [DecidableEq μ] (f : μ → κ) (hf : ∀ a b, f a = f b → a = b) {K : PySem.W.Frag} {C : Addr} {G : Hp} : ∀ {kvs : List (κ × V)} {kds : List (μ × D)} (k : μ), kvs.map Prod.fst = kds.map (fun p => f p.1) → RepL K C G (kvs.map Prod.snd) (kds.map Prod.snd) →
    (getK kds k = none ∧ valV kvs (f k) = none) ∨ ∃ v d, getK kds k = some d ∧ valV kvs (f k) = some v ∧ Rep K C G v d
  | [], [], k, _, _ => .inl ⟨rfl, rfl⟩
  | [], _ :: _, k, h, _ => by cases h
  | _ :: _, [], k, h, _ => by cases h
  | (a, v) :: kvs, (b, d) :: kds, k, h, r => by
    have h1 : a = f b := (List.cons.inj h).1
    have h2 := (List.cons.inj h).2
    cases r with
    | cons r1 r2 =>
      by_cases e : b = k
      · have e2 : a = f k := by rw [h1, e]
        refine .inr ⟨v, d, ?_, ?_, r1⟩
        · unfold getK; rw [List.find?_cons_of_pos (by simpa using e)]; rfl
        · unfold valV; rw [List.find?_cons_of_pos (by simpa using e2)]; rfl
      · have e2 : ¬ a = f k := fun z => e (hf _ _ (h1.symm.trans z))
        have g1 : getK ((b, d) :: kds) k = getK kds k := by unfold getK; rw [List.find?_cons_of_neg (by simpa using e)]
        have g2 : valV ((a, v) :: kvs) (f k) = valV kvs (f k) := by unfold valV; rw [List.find?_cons_of_neg (by simpa using e2)]
        rw [g1, g2]
        exact getK_val f hf k h2 r2
theorem kk_inj (a b : List Int) (h : kk a = kk b) : a = b := by
  induction a generalizing b with
  | nil => cases b with
    | nil => rfl
    | cons _ _ => cases h
  | cons x xs ih =>
    cases b with
    | nil => cases h
    | cons y ys =>
      have h1 := (List.cons.inj h).1
      have h2 := (List.cons.inj h).2
      cases h1
      rw [ih ys h2]
theorem kk_tup {vs : List V} {k : List Int} (r : RepL Γ.K Γ.C G vs (k.map D.int)) : vs = (kk k).map kV := by
  rw [RepL.ints_eq k r, List.map_map]; rfl
def inD : D → D → Option D
  | .int i, .tup ds => (asInts ds).bind fun ns => some (.bl (ns.any fun j => j == i))
  | .tup k, .dct kds => (asInts k).bind fun ns => some (.bl (getK kds ns).isSome)
  | .int i, .dci kds => some (.bl (getK kds i).isSome)
  | .str x, .str y => if x.cps.size = 1 then some (.bl (decide (x.cps.getD 0 0 ∈ y.cps.toList))) else none
  | d, .lst ds => if okD 8 d && ds.all (okD 8) then some (.bl (ds.any fun z => eqN 8 z d)) else none
  | _, _ => none
abbrev rDIn : R2 := fun y x H Q => ∃ a o, x = .ref a ∧ DGet H a y o ∧ Q (.bl o.isSome) H
theorem or_din {X : Cx} (hu : X.A.units + 1 < cLine) : OpR X (compareOp .In) rDIn := by
  intro pins s σ H y x u v Q I ry rx h
  obtain ⟨a, o, rfl, g, q⟩ := h
  cases (show v = Value.ref a from rx)
  exact d_in hu I g ry fun s' I' => ⟨.bl _, H, I', rfl, q⟩
abbrev rInA (K : PySem.W.Frag) : R2 := fun x y H Q => (fun x y H Q => (fun x y H Q => rIn K false x y H Q ∨ rDIn x y H Q) x y H Q ∨
  (fun (x y : V) (H : Hp) (Q : VK) => ∃ (c : Nat) (z : Str), x = .str ⟨#[c]⟩ ∧ y = .str z ∧ Q (.bl (decide (c ∈ z.cps.toList))) H) x y H Q) x y H Q ∨ rInD K x y H Q
theorem all_flat : ∀ ns : List Int, (ns.map V.int).all flatV = true
  | [] => rfl
  | _ :: ns => all_flat ns
theorem inV_ints (i : Int) : ∀ ns : List Int, inV (.int i) (ns.map V.int) = ns.any fun j => j == i
  | [] => rfl
  | n :: ns => by
    have := inV_ints i ns
    unfold inV at this ⊢
    rw [List.map_cons, List.any_cons, List.any_cons, this]
    rfl
theorem py_list (s : SL G H) {x : V} {ds : List D} (hc : ds.all (okD 8) = true) (r : RepB Γ.K Γ.C G H x (.lst ds)) : Dp Γ.K H x (.list (ds.map (py 8))) ∧ SeqAt.shaped (.list (ds.map (py 8))) = true :=
  ⟨py_dpB (n := 9) s (d := .lst ds) hc r, py_shaped (n := 9) (d := .lst ds) (by omega) hc⟩
theorem any_py {ds : List D} (hd : okD 8 d = true) (hc : ds.all (okD 8) = true) : ((ds.map (py 8)).any fun z => PyData.eqv z (py 8 d)) = ds.any fun z => eqN 8 z d := by
  induction ds with
  | nil => rfl
  | cons x xs ih =>
    rw [List.all_cons, Bool.and_eq_true] at hc
    rw [List.map_cons, List.any_cons, List.any_cons, ih hc.2, py_eqv 8 x d hc.1 hd]
theorem str_one {x : Str} (h : x.cps.size = 1) : x = ⟨#[x.cps.getD 0 0]⟩ := by
  obtain ⟨c⟩ := x
  obtain ⟨l⟩ := c
  match l, h with
  | [a], _ => rfl
theorem o_in : Op2 Γ .e (rInA Γ.K) inD := by
  intro G H x y d e z s rx ry h Q q
  unfold inD at h
  split at h
  · rename_i i ds
    cases ei : asInts ds with
    | none => rw [ei] at h; cases h
    | some ns =>
      rw [ei] at h
      cases h
      obtain ⟨a, vs, rfl, h1, h2⟩ := ry.tup
      rw [asInts_eq ei] at h2
      have e2 := RepL.ints_eq ns h2
      subst e2
      refine .inl (.inl (.inl ⟨a, _, rfl, .inr (SqT.of (s.tup h1)), by rw [rx.int]; rfl, all_flat ns, ?_⟩))
      rw [rx.int]
      show Q (.bl (inV _ _)) H
      rw [inV_ints]
      exact q G H _ (Grow.refl s) (.bl _)
  · rename_i k kds
    cases ei : asInts k with
    | none => rw [ei] at h; cases h
    | some ns =>
      rw [ei] at h
      cases h
      obtain ⟨b, vs, rfl, h1, h2⟩ := rx.tup
      rw [asInts_eq ei] at h2
      have e2 := kk_tup h2
      subst e2
      obtain ⟨a, kvs, rfl, h3, h4, h5⟩ := ry.dct s
      refine .inl (.inl (.inr ⟨a, valV kvs (kk ns), rfl, .inr ⟨kvs, kk ns, b, h3, rfl, s.tup h1, rfl⟩, ?_⟩))
      rcases getK_val kk kk_inj ns h4 h5 with ⟨g1, g2⟩ | ⟨w, f, g1, g2, _⟩
      · rw [g2]; rw [g1] at q; exact q G H _ (Grow.refl s) (.bl _)
      · rw [g2]; rw [g1] at q; exact q G H _ (Grow.refl s) (.bl _)
  · rename_i i kds
    cases h
    obtain ⟨a, kvs, rfl, h3, h4, h5⟩ := ry.dci s
    rw [rx.int]
    refine .inl (.inl (.inr ⟨a, valV kvs (Sum.inl i), rfl, .inl ⟨kvs, Sum.inl i, h3, rfl, rfl⟩, ?_⟩))
    rcases getK_val (κ := Key) Sum.inl (fun _ _ z => Sum.inl.inj z) i h4 h5 with ⟨g1, g2⟩ | ⟨w, f, g1, g2, _⟩
    · rw [g2]; rw [g1] at q; exact q G H _ (Grow.refl s) (.bl _)
    · rw [g2]; rw [g1] at q; exact q G H _ (Grow.refl s) (.bl _)
  · split at h
    · rename_i a b hc
      cases h
      exact .inl (.inr ⟨_, b, rx.str.trans (congrArg V.str (str_one hc)), ry.str, q G H _ (Grow.refl s) (.bl _)⟩)
    · cases h
  · split at h
    · rename_i hc
      cases h
      rw [Bool.and_eq_true] at hc
      obtain ⟨h1, h2⟩ := py_list s hc.2 ry
      refine .inr ⟨py 8 d, _, py_dpB s hc.1 rx, h1, py_shaped (by omega) hc.1, h2, ?_⟩
      rw [any_py hc.1 hc.2]
      exact q G H _ (Grow.refl s) (.bl _)
    · cases h
  · cases h
theorem d_in {ea eb : Expr} {a b : Env → Option D} {pos : Pos} (ha : DV Γ N sc κ1 ea a) (hb : DV Γ N sc κ2 eb b) (hm : behindInMarks .In eb = false := by rfl) : DC Γ N sc (.Compare ea [.In] [eb] pos) (f2 inD a b) :=
  d_cmp (fun X g => g.K ▸ ((op_in_seq.or (or_din (hu_of g.room))).or op_in_sign).or (op_inD (by have := g.room.un; omega))) o_in ha hb hm
def ninD (d e : D) : Option D := match inD d e with
  | some (.bl b) => some (.bl (!b))
  | _ => none
abbrev rDNin : R2 := fun y x H Q => ∃ a o, x = .ref a ∧ DGet H a y o ∧ Q (.bl (!o.isSome)) H
theorem or_dnin {X : Cx} (hu : X.A.units + 1 < cLine) : OpR X (compareOp .NotIn) rDNin := by
  intro pins s σ H y x u v Q I ry rx h
  obtain ⟨a, o, rfl, g, q⟩ := h
  cases (show v = Value.ref a from rx)
  exact d_notIn hu I g ry fun s' I' => ⟨.bl _, H, I', rfl, q⟩
abbrev rNinA (K : PySem.W.Frag) : R2 := fun x y H Q => (fun x y H Q => (fun x y H Q => rIn K true x y H Q ∨ rDNin x y H Q) x y H Q ∨
  (fun (x y : V) (H : Hp) (Q : VK) => ∃ (c : Nat) (z : Str), x = .str ⟨#[c]⟩ ∧ y = .str z ∧ Q (.bl (!decide (c ∈ z.cps.toList))) H) x y H Q) x y H Q ∨ rNotInD K x y H Q
theorem o_nin : Op2 Γ .e (rNinA Γ.K) ninD := by
  intro G H x y d e z s rx ry h Q q
  unfold ninD at h
  split at h
  · rename_i b hb
    cases h
    unfold inD at hb
    split at hb
    · rename_i i ds
      cases ei : asInts ds with
      | none => rw [ei] at hb; cases hb
      | some ns =>
        rw [ei] at hb
        cases hb
        obtain ⟨a, vs, rfl, h1, h2⟩ := ry.tup
        rw [asInts_eq ei] at h2
        have e2 := RepL.ints_eq ns h2
        subst e2
        refine .inl (.inl (.inl ⟨a, _, rfl, .inr (SqT.of (s.tup h1)), by rw [rx.int]; rfl, all_flat ns, ?_⟩))
        rw [rx.int]
        show Q (.bl (!inV _ _)) H
        rw [inV_ints]
        exact q G H _ (Grow.refl s) (.bl _)
    · rename_i k kds
      cases ei : asInts k with
      | none => rw [ei] at hb; cases hb
      | some ns =>
        rw [ei] at hb
        cases hb
        obtain ⟨b, vs, rfl, h1, h2⟩ := rx.tup
        rw [asInts_eq ei] at h2
        have e2 := kk_tup h2
        subst e2
        obtain ⟨a, kvs, rfl, h3, h4, h5⟩ := ry.dct s
        refine .inl (.inl (.inr ⟨a, valV kvs (kk ns), rfl, .inr ⟨kvs, kk ns, b, h3, rfl, s.tup h1, rfl⟩, ?_⟩))
        rcases getK_val kk kk_inj ns h4 h5 with ⟨g1, g2⟩ | ⟨w, f, g1, g2, _⟩
        · rw [g2]; rw [g1] at q; exact q G H _ (Grow.refl s) (.bl _)
        · rw [g2]; rw [g1] at q; exact q G H _ (Grow.refl s) (.bl _)
    · rename_i i kds
      cases hb
      obtain ⟨a, kvs, rfl, h3, h4, h5⟩ := ry.dci s
      rw [rx.int]
      refine .inl (.inl (.inr ⟨a, valV kvs (Sum.inl i), rfl, .inl ⟨kvs, Sum.inl i, h3, rfl, rfl⟩, ?_⟩))
      rcases getK_val (κ := Key) Sum.inl (fun _ _ z => Sum.inl.inj z) i h4 h5 with ⟨g1, g2⟩ | ⟨w, f, g1, g2, _⟩
      · rw [g2]; rw [g1] at q; exact q G H _ (Grow.refl s) (.bl _)
      · rw [g2]; rw [g1] at q; exact q G H _ (Grow.refl s) (.bl _)
    · split at hb
      · rename_i a b hc
        cases hb
        exact .inl (.inr ⟨_, b, rx.str.trans (congrArg V.str (str_one hc)), ry.str, q G H _ (Grow.refl s) (.bl _)⟩)
      · cases hb
    · split at hb
      · rename_i hc
        cases hb
        rw [Bool.and_eq_true] at hc
        obtain ⟨h1, h2⟩ := py_list s hc.2 ry
        refine .inr ⟨py 8 d, _, py_dpB s hc.1 rx, h1, py_shaped (by omega) hc.1, h2, ?_⟩
        rw [any_py hc.1 hc.2]
        exact q G H _ (Grow.refl s) (.bl _)
      · cases hb
    · cases hb
  · cases h
theorem d_nin {ea eb : Expr} {a b : Env → Option D} {pos : Pos} (ha : DV Γ N sc κ1 ea a) (hb : DV Γ N sc κ2 eb b) (hm : behindInMarks .NotIn eb = false := by rfl) : DC Γ N sc (.Compare ea [.NotIn] [eb] pos) (f2 ninD a b) :=
  d_cmp (fun X g => g.K ▸ ((op_notIn_seq.or (or_dnin (hu_of g.room))).or op_notIn_sign).or (op_notInD (by have := g.room.un; omega))) o_nin ha hb hm
/-! ### chains -/
def fch (g g' : D → D → Option D) (a b c : Env → Option D) : Env → Option D := fun ρ => (a ρ).bind fun x => (b ρ).bind fun y => (g x y).bind fun z => match z with
  | .bl true => (c ρ).bind fun w => g' y w
  | .bl false => some (.bl false)
  | _ => none
theorem sem_chain {r r' : R2} {g g' : D → D → Option D} {ta tb tc : TE} {a b c : Env → Option D} (h : Op2 Γ .e r g) (h' : Op2 Γ .e r' g') (sa : SemV Γ κ1 ta a) (sb : SemV Γ κ2 tb b) (sc : SemV Γ κ3 tc c) : SemV Γ .e (tChain r r' ta tb tc) (fch g g' a b c) := fun H0 ρ σ G H Q z s E e q => by
  unfold fch at e
  cases ea : a ρ with
  | none => rw [ea] at e; cases e
  | some x =>
    rw [ea] at e
    cases eb : b ρ with
    | none => rw [eb] at e; cases e
    | some y =>
      rw [eb] at e
      cases eg : g x y with
      | none => simp only [Option.bind_some, eg] at e; cases e
      | some k =>
        simp only [Option.bind_some, eg] at e
        refine sa H0 ρ σ G H _ x s E ea fun G1 H1 v g1 o1 => ?_
        refine sb H0 ρ σ G1 H1 _ y g1.s (E.grow g1) eb fun G2 H2 w g2 o2 => ?_
        refine h G2 H2 v w x y k g2.s (o1.b.mono g2.g g2.h) o2.b eg _ fun G3 H3 u g3 o3 => ?_
        have g13 := (g1.trans g2).trans g3
        cases k with
        | bl k =>
          cases (show Rep Γ.K Γ.C G3 u (.bl k) from o3)
          cases k with
          | true =>
            refine ⟨true, rfl, ?_⟩
            rw [if_pos rfl]
            cases ec : c ρ with
            | none => rw [ec] at e; cases e
            | some w' =>
              rw [ec] at e
              refine sc H0 ρ σ G3 H3 _ w' g3.s (E.grow g13) ec fun G4 H4 w2 g4 o4 => ?_
              exact h' G4 H4 w w2 y w' z g4.s (o2.b.mono (g3.g.trans g4.g) (g3.h.trans g4.h)) o4.b e Q fun G5 H5 u5 g5 o5 => q G5 H5 u5 ((g13.trans g4).trans g5) o5
          | false =>
            cases e
            refine ⟨false, rfl, ?_⟩
            rw [if_neg Bool.false_ne_true]
            exact q G3 H3 _ g13 (.bl false)
        | _ => cases e
theorem d_chain {op op' : CmpOp} {r r' : R2} {g g' : D → D → Option D} {ea eb ec : Expr} {a b c : Env → Option D} {pos : Pos} (ho : ∀ X, Good Γ N sc X → OpR X (compareOp op) r) (ho' : ∀ X, Good Γ N sc X → OpR X (compareOp op') r') (h : Op2 Γ .e r g) (h' : Op2 Γ .e r' g')
    (ha : DV Γ N sc κ1 ea a) (hb : DV Γ N sc κ2 eb b) (hc : DV Γ N sc κ3 ec c) (hm : lastMarks [op, op'] [eb, ec] = false) : DC Γ N sc (.Compare ea [op, op'] [eb, ec] pos) (fch g g' a b c) := by
  obtain ⟨ta, pa, sa⟩ := ha.ex
  obtain ⟨tb, pb, sb⟩ := hb.ex
  obtain ⟨tc, pc, sc⟩ := hc.ex
  exact ⟨_, fun X gX => ⟨pe_chain (ho X gX) (ho' X gX) (pa X gX) (pb X gX) (pc X gX) hm, pt_chain (ho X gX) (ho' X gX) (pa X gX) (pb X gX) (pc X gX) hm⟩, sem_chain h h' sa sb sc⟩
theorem d_lele {ea eb ec : Expr} {a b c : Env → Option D} {pos : Pos} (ha : DV Γ N sc κ1 ea a) (hb : DV Γ N sc κ2 eb b) (hc : DV Γ N sc κ3 ec c) (hm : lastMarks [.LtE, .LtE] [eb, ec] = false := by with_unfolding_all rfl) : DC Γ N sc (.Compare ea [.LtE, .LtE] [eb, ec] pos) (fch leD leD a b c) :=
  d_chain (fun X g => op_le) (fun X g => op_le) o_le o_le ha hb hc hm
theorem d_lelt {ea eb ec : Expr} {a b c : Env → Option D} {pos : Pos} (ha : DV Γ N sc κ1 ea a) (hb : DV Γ N sc κ2 eb b) (hc : DV Γ N sc κ3 ec c) (hm : lastMarks [.LtE, .Lt] [eb, ec] = false := by with_unfolding_all rfl) : DC Γ N sc (.Compare ea [.LtE, .Lt] [eb, ec] pos) (fch leD ltD a b c) :=
  d_chain (fun X g => op_le) (fun X g => op_lt) o_le o_lt ha hb hc hm
theorem d_ltle {ea eb ec : Expr} {a b c : Env → Option D} {pos : Pos} (ha : DV Γ N sc κ1 ea a) (hb : DV Γ N sc κ2 eb b) (hc : DV Γ N sc κ3 ec c) (hm : lastMarks [.Lt, .LtE] [eb, ec] = false := by with_unfolding_all rfl) : DC Γ N sc (.Compare ea [.Lt, .LtE] [eb, ec] pos) (fch ltD leD a b c) :=
  d_chain (fun X g => op_lt) (fun X g => op_le) o_lt o_le ha hb hc hm
end
end Pv
set_option Elab.async false
set_option linter.all false
set_option maxRecDepth 100000
set_option maxHeartbeats 4000000
set_option autoImplicit false
namespace Pv
open PySem PySem.Spec PyProof.Rows L2
section
variable {Γ : Gam} {N : List Str} {sc : Scope} {κ κ1 κ2 κ3 : Kd} {G H G' H' G1 H1 : Hp} {v : V} {d : D}
/-! ### truth -/
def truD : D → Option Bool
  | .non => some false
  | .bl b => some b
  | .int i => some (i != 0)
  | .str s => if s.length < big then some ((s.length : Int) != 0) else none
  | .tup xs => some (!xs.isEmpty)
  | .lst xs => some (!xs.isEmpty)
  | .scr ns => some (!ns.isEmpty)
  | _ => none
theorem RepL.empty {K : PySem.W.Frag} {C : Addr} {G : Hp} {vs : List V} {ds : List D} (h : RepL K C G vs ds) : vs.isEmpty = ds.isEmpty := by cases h <;> rfl
theorem tru_of {k : Bool} (s : SL G H) (r : RepB Γ.K Γ.C G H v d) (h : truD d = some k) : TruV Γ.K v H k := by
  cases d with
  | non => cases h; rw [r.non]; rfl
  | bl b => cases h; rw [r.bl]; rfl
  | int i => cases h; rw [r.int]; rfl
  | str z =>
    have h : (if z.length < big then some ((z.length : Int) != 0) else none) = some k := h
    split at h
    · rename_i hl; cases h; rw [r.str]; exact ⟨Nat.le_of_lt (big_lt hl), rfl⟩
    · cases h
  | tup xs =>
    cases h
    obtain ⟨a, vs, rfl, h1, h2⟩ := r.tup
    exact .inr (.inl ⟨vs, SqT.of (s.tup h1), by rw [h2.empty]⟩)
  | lst xs =>
    cases h
    obtain ⟨a, vs, rfl, h1, h2⟩ := r.lst s
    exact .inl ⟨vs, SqL.of h1, by rw [h2.empty]⟩
  | scr ns =>
    cases h
    obtain ⟨a, rfl, h1⟩ := r.scr s
    exact .inl ⟨_, h1, by cases ns <;> rfl⟩
  | _ => cases h
def tv (a : Env → Option D) : Env → Option Bool := fun ρ => (a ρ).bind truD
def tand (a b : Env → Option Bool) : Env → Option Bool := fun ρ => (a ρ).bind fun c => if c then b ρ else some false
def tor (a b : Env → Option Bool) : Env → Option Bool := fun ρ => (a ρ).bind fun c => if c then some true else b ρ
def tnot (a : Env → Option Bool) : Env → Option Bool := fun ρ => (a ρ).bind fun c => some (!c)
def tb (a : Env → Option D) : Env → Option Bool := fun ρ => (a ρ).bind fun x => match x with
  | .bl c => some c
  | _ => none
def vand (a b : Env → Option D) : Env → Option D := fun ρ => (a ρ).bind fun x => (truD x).bind fun c => if c then b ρ else some x
def vor (a b : Env → Option D) : Env → Option D := fun ρ => (a ρ).bind fun x => (truD x).bind fun c => if c then some x else b ρ
def notD (d : D) : Option D := (truD d).bind fun c => some (.bl (!c))
theorem t_v {e : Expr} {a : Env → Option D} (ha : DV Γ N sc κ e a) (he : ∀ (env : PySem.Env) (whole : Sem Value), isTrue e env whole = (do let v ← whole; standAt e.pos; holding [v] (truthy v)) := by intro _ _; rfl) : DT Γ N sc e (tv a) := by
  obtain ⟨t, p, s1⟩ := ha.ex
  refine ⟨_, fun X g => g.K ▸ pt_truth (p X g) (he _), fun H0 ρ σ G H Q c s E e q => ?_⟩
  unfold tv at e
  cases ea : a ρ with
  | none => rw [ea] at e; cases e
  | some x =>
    rw [ea] at e
    exact s1 H0 ρ σ G H _ x s E ea fun G1 H1 v g1 o1 => ⟨c, tru_of g1.s o1.b e, q G1 H1 g1⟩
theorem t_c {e : Expr} {a : Env → Option D} (ha : DC Γ N sc e a) : DT Γ N sc e (tb a) := by
  obtain ⟨t, p, s1⟩ := ha.ex
  refine ⟨_, fun X g => (p X g).2, fun H0 ρ σ G H Q c s E e q => ?_⟩
  unfold tb at e
  cases ea : a ρ with
  | none => rw [ea] at e; cases e
  | some x =>
    rw [ea] at e
    cases x with
    | bl b =>
      cases e
      refine s1 H0 ρ σ G H _ _ s E ea fun G1 H1 v g1 o1 => ?_
      cases (show Rep Γ.K Γ.C G1 v (.bl _) from o1)
      exact ⟨_, rfl, q G1 H1 g1⟩
    | _ => cases e
theorem t_not {e : Expr} {a : Env → Option Bool} {pos : Pos} (ha : DT Γ N sc e a) : DT Γ N sc (.UnaryOp .Not e pos) (tnot a) := by
  obtain ⟨t, p, s1⟩ := ha.ex
  refine ⟨_, fun X g => pt_not (p X g), fun H0 ρ σ G H Q c s E e q => ?_⟩
  unfold tnot at e
  cases ea : a ρ with
  | none => rw [ea] at e; cases e
  | some x => rw [ea] at e; cases e; exact s1 H0 ρ σ G H _ x s E ea fun G1 H1 g1 => q G1 H1 g1
theorem w_and1 {e : Expr} {a : Env → Option Bool} {pos : Pos} (ha : DT Γ N sc e a) : DW Γ N sc (.BoolOp .And [e] pos) a := let ⟨t, p, s⟩ := ha.ex; ⟨t, fun X g => pw_and1 (p X g), s⟩
theorem w_or1 {e : Expr} {a : Env → Option Bool} {pos : Pos} (ha : DT Γ N sc e a) : DW Γ N sc (.BoolOp .Or [e] pos) a := let ⟨t, p, s⟩ := ha.ex; ⟨t, fun X g => pw_or1 (p X g), s⟩
theorem w_and {e e2 : Expr} {rest : List Expr} {a b : Env → Option Bool} {pos : Pos} (ha : DT Γ N sc e a) (hb : DW Γ N sc (.BoolOp .And (e2 :: rest) pos) b) : DW Γ N sc (.BoolOp .And (e :: e2 :: rest) pos) (tand a b) := by
  obtain ⟨t, p, s1⟩ := ha.ex
  obtain ⟨t2, p2, s2⟩ := hb.ex
  refine ⟨_, fun X g => pw_and (p X g) (p2 X g), fun H0 ρ σ G H Q c s E e q => ?_⟩
  unfold tand at e
  cases ea : a ρ with
  | none => rw [ea] at e; cases e
  | some x =>
    rw [ea] at e
    refine s1 H0 ρ σ G H _ x s E ea fun G1 H1 g1 => ?_
    cases x with
    | true => rw [if_pos rfl]; exact s2 H0 ρ σ G1 H1 Q c g1.s (E.grow g1) e fun G2 H2 g2 => q G2 H2 (g1.trans g2)
    | false => rw [if_neg Bool.false_ne_true]; cases e; exact q G1 H1 g1
theorem w_or {e e2 : Expr} {rest : List Expr} {a b : Env → Option Bool} {pos : Pos} (ha : DT Γ N sc e a) (hb : DW Γ N sc (.BoolOp .Or (e2 :: rest) pos) b) : DW Γ N sc (.BoolOp .Or (e :: e2 :: rest) pos) (tor a b) := by
  obtain ⟨t, p, s1⟩ := ha.ex
  obtain ⟨t2, p2, s2⟩ := hb.ex
  refine ⟨_, fun X g => pw_or (p X g) (p2 X g), fun H0 ρ σ G H Q c s E e q => ?_⟩
  unfold tor at e
  cases ea : a ρ with
  | none => rw [ea] at e; cases e
  | some x =>
    rw [ea] at e
    refine s1 H0 ρ σ G H _ x s E ea fun G1 H1 g1 => ?_
    cases x with
    | false => rw [if_neg Bool.false_ne_true]; exact s2 H0 ρ σ G1 H1 Q c g1.s (E.grow g1) e fun G2 H2 g2 => q G2 H2 (g1.trans g2)
    | true => rw [if_pos rfl]; cases e; exact q G1 H1 g1
/-! ### and, or, not as values -/
theorem d_one {e : Expr} {op} {a : Env → Option D} {pos : Pos} (ha : DV Γ N sc κ e a) : DV Γ N sc κ (.BoolOp op [e] pos) a := let ⟨t, p, s⟩ := ha.ex; ⟨t, fun X g => pe_one (p X g), s⟩
theorem d_and {e e2 : Expr} {rest : List Expr} {a b : Env → Option D} {pos : Pos} (ha : DV Γ N sc .e e a) (hb : DV Γ N sc .e (.BoolOp .And (e2 :: rest) pos) b) : DV Γ N sc .e (.BoolOp .And (e :: e2 :: rest) pos) (vand a b) := by
  obtain ⟨t, p, s1⟩ := ha.ex
  obtain ⟨t2, p2, s2⟩ := hb.ex
  refine ⟨_, fun X g => g.K ▸ pe_andT (p X g) (p2 X g), fun H0 ρ σ G H Q z s E e q => ?_⟩
  unfold vand at e
  cases ea : a ρ with
  | none => rw [ea] at e; cases e
  | some x =>
    rw [ea] at e
    cases et : truD x with
    | none => simp only [Option.bind_some, et] at e; cases e
    | some k =>
      simp only [Option.bind_some, et] at e
      refine s1 H0 ρ σ G H _ x s E ea fun G1 H1 v g1 o1 => ⟨k, tru_of g1.s o1.b et, ?_⟩
      cases k with
      | true => rw [if_pos rfl]; exact s2 H0 ρ σ G1 H1 Q z g1.s (E.grow g1) e fun G2 H2 w g2 o2 => q G2 H2 w (g1.trans g2) o2
      | false => rw [if_neg Bool.false_ne_true]; cases e; exact q G1 H1 v g1 o1
theorem d_or {e e2 : Expr} {rest : List Expr} {a b : Env → Option D} {pos : Pos} (ha : DV Γ N sc .e e a) (hb : DV Γ N sc .e (.BoolOp .Or (e2 :: rest) pos) b) : DV Γ N sc .e (.BoolOp .Or (e :: e2 :: rest) pos) (vor a b) := by
  obtain ⟨t, p, s1⟩ := ha.ex
  obtain ⟨t2, p2, s2⟩ := hb.ex
  refine ⟨_, fun X g => g.K ▸ pe_orT (p X g) (p2 X g), fun H0 ρ σ G H Q z s E e q => ?_⟩
  unfold vor at e
  cases ea : a ρ with
  | none => rw [ea] at e; cases e
  | some x =>
    rw [ea] at e
    cases et : truD x with
    | none => simp only [Option.bind_some, et] at e; cases e
    | some k =>
      simp only [Option.bind_some, et] at e
      refine s1 H0 ρ σ G H _ x s E ea fun G1 H1 v g1 o1 => ⟨k, tru_of g1.s o1.b et, ?_⟩
      cases k with
      | false => rw [if_neg Bool.false_ne_true]; exact s2 H0 ρ σ G1 H1 Q z g1.s (E.grow g1) e fun G2 H2 w g2 o2 => q G2 H2 w (g1.trans g2) o2
      | true => rw [if_pos rfl]; cases e; exact q G1 H1 v g1 o1
theorem d_notv {e : Expr} {a : Env → Option D} {pos : Pos} (ha : DV Γ N sc κ e a) : DV Γ N sc .e (.UnaryOp .Not e pos) (f1 notD a) := by
  obtain ⟨t, p, s1⟩ := ha.ex
  refine ⟨_, fun X g => g.K ▸ pe_notT (p X g), fun H0 ρ σ G H Q z s E e q => ?_⟩
  unfold f1 at e
  cases ea : a ρ with
  | none => rw [ea] at e; cases e
  | some x =>
    rw [ea] at e
    have e : notD x = some z := e
    unfold notD at e
    cases et : truD x with
    | none => rw [et] at e; cases e
    | some k =>
      rw [et] at e
      cases e
      exact s1 H0 ρ σ G H _ x s E ea fun G1 H1 v g1 o1 => ⟨k, tru_of g1.s o1.b et, q G1 H1 _ g1 (.bl _)⟩
def negD : D → Option D
  | .int i => some (.int (-i))
  | _ => none
theorem d_neg {e : Expr} {a : Env → Option D} {pos : Pos} (ha : DV Γ N sc κ e a) : DV Γ N sc .e (.UnaryOp .USub e pos) (f1 negD a) := by
  obtain ⟨t, p, s1⟩ := ha.ex
  refine ⟨_, fun X g => pe_un un_neg (p X g), fun H0 ρ σ G H Q z s E e q => ?_⟩
  unfold f1 at e
  cases ea : a ρ with
  | none => rw [ea] at e; cases e
  | some x =>
    rw [ea] at e
    cases x <;> cases e
    exact s1 H0 ρ σ G H _ _ s E ea fun G1 H1 v g1 o1 => ⟨_, o1.b.int, q G1 H1 _ g1 (.int _)⟩
/-! ### subscripts -/
def ixD : D → D → Option D
  | .lst ds, .int i => atI ds i
  | .tup ds, .int i => atI ds i
  | .scr ns, .int i => (atI ns i).map D.int
  | .str z, .int i => if z.length < big then (atI z.cps.toList i).map fun c => .str ⟨#[c]⟩ else none
  | .dct kds, .tup k => (asInts k).bind fun ns => getK kds ns
  | .dci kds, .int i => getK kds i
  | _, _ => none
theorem atI_rep {K : PySem.W.Frag} {C : Addr} {G : Hp} {vs : List V} {ds : List D} {i : Int} {z : D} (r : RepL K C G vs ds) (h : atI ds i = some z) : ∃ v, atI vs i = some v ∧ Rep K C G v z := by
  unfold atI at h ⊢
  rw [r.length]
  cases e : ixN ds.length i with
  | none => rw [e] at h; cases h
  | some j =>
    rw [e] at h
    exact r.get h
theorem atI_map {α β : Type} (f : α → β) (xs : List α) (i : Int) : atI (xs.map f) i = (atI xs i).map f := by
  unfold atI
  rw [List.length_map]
  cases ixN xs.length i with
  | none => rfl
  | some j => simp
abbrev rDGt : R2 := fun x y H Q => ∃ a v, x = .ref a ∧ DGet H a y (some v) ∧ Q v H
theorem ix_dict {X : Cx} (hu : X.A.units + 1 < cLine) : IxR X rDGt := by
  intro value slice pins s σ H x y v u Q I rx ry h hs
  obtain ⟨a, w, rfl, g, q⟩ := h
  cases (show v = Value.ref a from rx)
  refine tail_any (dict_typeIs I g) PySem.F.slot_dict_getitem.lookup ?_ hs
  exact d_getItem hu I g ry fun w' s' I' r' => ⟨w, H, I', r', q⟩
abbrev rIxA (K : PySem.W.Frag) : R2 := fun x y H Q => rIx K x y H Q ∨ rDGt x y H Q
theorem o_ix : Op2 Γ .e (rIxA Γ.K) ixD := by
  intro G H x y d e z s rx ry h Q q
  unfold ixD at h
  split at h
  · rename_i ds i
    obtain ⟨a, vs, rfl, h1, h2⟩ := rx.lst s
    obtain ⟨v, h3, h4⟩ := atI_rep h2 h
    exact .inl (.inl ⟨a, vs, i, v, rfl, ry.int, SqL.of h1, h3, q G H v (Grow.refl s) h4⟩)
  · rename_i ds i
    obtain ⟨a, vs, rfl, h1, h2⟩ := rx.tup
    obtain ⟨v, h3, h4⟩ := atI_rep h2 h
    exact .inl (.inr (.inl ⟨a, vs, i, v, rfl, ry.int, SqT.of (s.tup h1), h3, q G H v (Grow.refl s) h4⟩))
  · rename_i ns i
    obtain ⟨a, rfl, h1⟩ := rx.scr s
    cases e : atI ns i with
    | none => rw [e] at h; cases h
    | some n =>
      rw [e] at h
      cases h
      exact .inl (.inl ⟨a, _, i, .int n, rfl, ry.int, h1, by rw [atI_map, e]; rfl, q G H _ (Grow.refl s) (.int n)⟩)
  · rename_i w i
    split at h
    · rename_i hl
      cases e : atI w.cps.toList i with
      | none => rw [e] at h; cases h
      | some n =>
        rw [e] at h
        cases h
        exact .inl (.inr (.inr ⟨w, i, n, rx.str, ry.int, Nat.le_of_lt (big_lt hl), e, q G H _ (Grow.refl s) (.str _)⟩))
    · cases h
  · rename_i kds k
    cases ei : asInts k with
    | none => rw [ei] at h; cases h
    | some ns =>
      rw [ei] at h
      have h : getK kds ns = some z := h
      obtain ⟨b, vs, rfl, h1, h2⟩ := ry.tup
      rw [asInts_eq ei] at h2
      have e2 := kk_tup h2
      subst e2
      obtain ⟨a, kvs, rfl, h3, h4, h5⟩ := rx.dct s
      rcases getK_val kk kk_inj ns h4 h5 with ⟨g1, g2⟩ | ⟨w, f, g1, g2, g3⟩
      · rw [g1] at h; cases h
      · rw [g1] at h
        cases h
        exact .inr ⟨a, w, rfl, .inr ⟨kvs, kk ns, b, h3, rfl, s.tup h1, g2.symm⟩, q G H w (Grow.refl s) (g3.mono (SL.refl _))⟩
  · rename_i kds i
    obtain ⟨a, kvs, rfl, h3, h4, h5⟩ := rx.dci s
    rcases getK_val (κ := Key) Sum.inl (fun _ _ z => Sum.inl.inj z) i h4 h5 with ⟨g1, g2⟩ | ⟨w, f, g1, g2, g3⟩
    · rw [g1] at h; cases h
    · rw [g1] at h
      cases h
      refine .inr ⟨a, w, rfl, .inl ⟨kvs, Sum.inl i, h3, ?_, g2.symm⟩, q G H w (Grow.refl s) g3⟩
      rw [ry.int]; rfl
  · cases h
theorem d_ix {ea eb : Expr} {a b : Env → Option D} {pos : Pos} (ha : DV Γ N sc κ1 ea a) (hb : DV Γ N sc κ2 eb b) (hs : PlainIx eb := by exact fun _ _ => rfl) : DV Γ N sc .e (.Subscript ea eb pos) (f2 ixD a b) := by
  obtain ⟨ta, pa, sa⟩ := ha.ex
  obtain ⟨tb, pb, sb⟩ := hb.ex
  exact ⟨_, fun X gX => gX.K ▸ pe_ix (ix_seq.or (ix_dict (hu_of gX.room))) (pa X gX) (pb X gX) hs, sem_op o_ix sa sb⟩
/-! ### slices -/
def cutL {α : Type} (xs : List α) (lo hi : Option Int) : List α := (xs.drop (HT.sIx xs.length 0 lo)).take (HT.sIx xs.length xs.length hi - HT.sIx xs.length 0 lo)
theorem cutL_rep {K : PySem.W.Frag} {C : Addr} {G : Hp} {vs : List V} {ds : List D} {lo hi : Option Int} (r : RepL K C G vs ds) : RepL K C G (cutV vs lo hi) (cutL ds lo hi) := by
  unfold cutV cutL
  rw [r.length]
  exact (r.drop _).take _
theorem cutL_map {α β : Type} (f : α → β) (xs : List α) (lo hi : Option Int) : cutL (xs.map f) lo hi = (cutL xs lo hi).map f := by
  unfold cutL
  rw [List.length_map, List.map_take, List.map_drop]
def SemO (Γ : Gam) (t : TO) (F : Env → Option (Option Int)) : Prop := ∀ (H0 : Hp) (ρ : Env) (σ : L2.St) (G H : Hp) (Q : Option Int → Hp → Prop) (o : Option Int), SL G H → EnvOk Γ H0 G H ρ σ → F ρ = some o →
  (∀ (G' H' : Hp), Grow G H G' H' → Q o H') → t σ H Q
structure DO (Γ : Gam) (N : List Str) (sc : Scope) (e : Option Expr) (F : Env → Option (Option Int)) : Prop where
  ex : ∃ t, (∀ X, Good Γ N sc X → PO X e t) ∧ SemO Γ t F
def onone : Env → Option (Option Int) := fun _ => some none
def osome (a : Env → Option D) : Env → Option (Option Int) := fun ρ => (a ρ).bind fun x => match x with
  | .int i => some (some i)
  | _ => none
theorem o_none : DO Γ N sc none onone := ⟨tNoPart, fun X _ => po_none, fun H0 ρ σ G H Q o s E e q => by cases e; exact q G H (Grow.refl s)⟩
theorem o_some {e : Expr} {a : Env → Option D} (ha : DV Γ N sc κ e a) : DO Γ N sc (some e) (osome a) := by
  obtain ⟨t, p, s1⟩ := ha.ex
  refine ⟨_, fun X g => po_some (p X g), fun H0 ρ σ G H Q o s E e q => ?_⟩
  unfold osome at e
  cases ea : a ρ with
  | none => rw [ea] at e; cases e
  | some x =>
    rw [ea] at e
    cases x <;> cases e
    exact s1 H0 ρ σ G H _ _ s E ea fun G1 H1 v g1 o1 => ⟨_, o1.b.int, q G1 H1 g1⟩
def slD : D → Option Int → Option Int → Option D
  | .lst ds, lo, hi => some (.lst (cutL ds lo hi))
  | .scr ns, lo, hi => some (.lst ((cutL ns lo hi).map D.int))
  | .tup ds, lo, hi => some (.tup (cutL ds lo hi))
  | .str z, lo, hi => if z.length < big then some (.str (cutS z lo hi)) else none
  | _, _, _ => none
abbrev rSlAll (K : PySem.W.Frag) : V → Option Int → Option Int → Hp → VK → Prop := fun x lo hi H Q => (fun x lo hi H Q => rSlL K x lo hi H Q ∨ rSlA K x lo hi H Q) x lo hi H Q ∨ rSlS x lo hi H Q
theorem sl_ok {x : V} {z : D} {lo hi : Option Int} (s : SL G H) (rx : RepB Γ.K Γ.C G H x d) (h : slD d lo hi = some z) (Q : VK) (q : ∀ (G' H' : Hp) (u : V), Grow G H G' H' → Rep Γ.K Γ.C G' u z → Q u H') : rSlAll Γ.K x lo hi H Q := by
  cases d with
  | lst ds =>
    cases h
    obtain ⟨a, vs, rfl, h1, h2⟩ := rx.lst s
    refine .inl (.inl ⟨a, vs, rfl, SqL.of h1, fun p hp => ?_⟩)
    exact q _ _ _ (Grow.new s hp) (.lst upd_same ((cutL_rep h2).mono (SL.new (s.free hp))))
  | scr ns =>
    cases h
    obtain ⟨a, rfl, h1⟩ := rx.scr s
    refine .inl (.inl ⟨a, _, rfl, h1, fun p hp => ?_⟩)
    refine q _ _ _ (Grow.new s hp) (.lst upd_same ?_)
    rw [show cutV (ns.map V.int) lo hi = (cutL ns lo hi).map V.int from cutL_map V.int ns lo hi]
    exact RepL.ints _
  | tup ds =>
    cases h
    obtain ⟨a, vs, rfl, h1, h2⟩ := rx.tup
    refine .inl (.inr ⟨a, vs, rfl, SqT.of (s.tup h1), fun hw => ?_, fun _ p hp => ?_⟩)
    · have e : cutL ds lo hi = ds := by
        unfold cutL
        rw [← h2.length, hw.1, hw.2, List.drop_zero, Nat.sub_zero, h2.length, List.take_length]
      rw [e] at q
      exact q G H _ (Grow.refl s) (.tup h1 h2)
    · exact q _ _ _ (Grow.new s hp) (.tup upd_same ((cutL_rep h2).mono (SL.new (s.free hp))))
  | str w =>
    have h : (if w.length < big then some (D.str (cutS w lo hi)) else none) = some z := h
    split at h
    · rename_i hl
      cases h
      exact .inr ⟨w, rx.str, Nat.le_of_lt (big_lt hl), q G H _ (Grow.refl s) (.str _)⟩
    · cases h
  | _ => cases h
def fsl (a : Env → Option D) (l h : Env → Option (Option Int)) : Env → Option D := fun ρ => (a ρ).bind fun x => (l ρ).bind fun lo => (h ρ).bind fun hi => slD x lo hi
theorem d_sl {e : Expr} {lo hi : Option Expr} {a : Env → Option D} {l h : Env → Option (Option Int)} {p2 pos : Pos} (ha : DV Γ N sc κ e a) (hl : DO Γ N sc lo l) (hh : DO Γ N sc hi h) : DV Γ N sc .e (.Subscript e (.Slice lo hi none p2) pos) (fsl a l h) := by
  obtain ⟨t, p, s1⟩ := ha.ex
  obtain ⟨tl, pl, s2⟩ := hl.ex
  obtain ⟨th, ph, s3⟩ := hh.ex
  refine ⟨_, fun X g => g.K ▸ pe_slice ((sl_list.or sl_tupA).or sl_str) (p X g) (pl X g) (ph X g), fun H0 ρ σ G H Q z s E e q => ?_⟩
  unfold fsl at e
  cases ea : a ρ with
  | none => rw [ea] at e; cases e
  | some x =>
    cases el : l ρ with
    | none => simp only [ea, el, Option.bind_some] at e; cases e
    | some l' =>
      cases eh : h ρ with
      | none => simp only [ea, el, eh, Option.bind_some] at e; cases e
      | some h' =>
        simp only [ea, el, eh, Option.bind_some] at e
        refine s1 H0 ρ σ G H _ x s E ea fun G1 H1 v g1 o1 => ?_
        refine s2 H0 ρ σ G1 H1 _ l' g1.s (E.grow g1) el fun G2 H2 g2 => ?_
        refine s3 H0 ρ σ G2 H2 _ h' g2.s (E.grow (g1.trans g2)) eh fun G3 H3 g3 => ?_
        exact sl_ok g3.s (o1.b.mono (g2.g.trans g3.g) (g2.h.trans g3.h)) e Q fun G4 H4 u g4 o4 => q G4 H4 u (((g1.trans g2).trans g3).trans g4) o4
end
end Pv
set_option Elab.async false
set_option linter.all false
set_option maxRecDepth 100000
set_option maxHeartbeats 4000000
set_option autoImplicit false
namespace Pv
open PySem PySem.Spec PyProof.Rows L2
section
variable {Γ : Gam} {N : List Str} {sc : Scope} {κ κ1 κ2 κ3 : Kd} {G H G' H' G1 H1 : Hp} {v : V} {d : D}
/-! ### built-in functions -/
abbrev RC := List V → Hp → VK → Prop
def Op1 (Γ : Gam) (κ : Kd) (r : RC) (g : D → Option D) : Prop := ∀ (G H : Hp) (x : V) (d z : D), SL G H → RepB Γ.K Γ.C G H x d → g d = some z →
  ∀ Q : VK, (∀ (G' H' : Hp) (u : V), Grow G H G' H' → Out Γ κ G H G' H' u z → Q u H') → r [x] H Q
def Op1b (Γ : Gam) (κ : Kd) (r : RC) (g : D → D → Option D) : Prop := ∀ (G H : Hp) (x y : V) (d e z : D), SL G H → RepB Γ.K Γ.C G H x d → RepB Γ.K Γ.C G H y e → g d e = some z →
  ∀ Q : VK, (∀ (G' H' : Hp) (u : V), Grow G H G' H' → Out Γ κ G H G' H' u z → Q u H') → r [x, y] H Q
theorem sem_c1 {r : RC} {g : D → Option D} {ta : TE} {a : Env → Option D} (h : Op1 Γ κ r g) (sa : SemV Γ κ1 ta a) : SemV Γ κ (tCB r (tCons ta tNil)) (f1 g a) := fun H0 ρ σ G H Q z s E e q => by
  unfold f1 at e
  cases ea : a ρ with
  | none => rw [ea] at e; cases e
  | some x =>
    rw [ea] at e
    refine sa H0 ρ σ G H _ x s E ea fun G1 H1 v g1 o1 => ?_
    exact h G1 H1 v x z g1.s o1.b e Q fun G3 H3 u g3 o3 => q G3 H3 u (g1.trans g3) (o3.pre g1)
theorem sem_c2 {r : RC} {g : D → D → Option D} {ta tb : TE} {a b : Env → Option D} (h : Op1b Γ κ r g) (sa : SemV Γ κ1 ta a) (sb : SemV Γ κ2 tb b) : SemV Γ κ (tCB r (tCons ta (tCons tb tNil))) (f2 g a b) := fun H0 ρ σ G H Q z s E e q => by
  unfold f2 at e
  cases ea : a ρ with
  | none => rw [ea] at e; cases e
  | some x =>
    rw [ea] at e
    cases eb : b ρ with
    | none => rw [eb] at e; cases e
    | some y =>
      rw [eb] at e
      refine sa H0 ρ σ G H _ x s E ea fun G1 H1 v g1 o1 => ?_
      refine sb H0 ρ σ G1 H1 _ y g1.s (E.grow g1) eb fun G2 H2 w g2 o2 => ?_
      exact h G2 H2 v w x y z g2.s (o1.b.mono g2.g g2.h) o2.b e Q fun G3 H3 u g3 o3 => q G3 H3 u ((g1.trans g2).trans g3) (o3.pre (g1.trans g2))
/-- an argument list that begins with a plain expression -/
abbrev Pl1 (e : Expr) (es : List Expr) : Prop := ∀ env : PySem.Env, starEach (e :: es) env = (false, eval e env) :: starEach es env
theorem d_b1 {x : Str} {id : String} {r : RC} {g : D → Option D} {ea : Expr} {a : Env → Option D} {p pos : Pos} (hc : ∀ X, Good Γ N sc X → CallR X (.builtin id) r) (hv : bootBuiltins x = some (.builtin id)) (hn : x ≠ "__name__") (hdb : (x == ("__debug__" : Str)) = false)
    (h : Op1 Γ κ r g) (hg : glB sc x = true) (hm : Γ.mg x = none) (ha : DV Γ N sc κ1 ea a) (hs : Pl1 ea []) : DV Γ N sc κ (.Call (.Name x p) [ea] [] pos) (f1 g a) := by
  obtain ⟨ta, pa, sa⟩ := ha.ex
  exact ⟨_, fun X gX => pe_callB (hc X gX) (gl_of gX hg) (by rw [gX.mg]; exact hm) hv (pa_cons (pa X gX) pa_nil (hs _)) hn hdb (hs _) rfl, sem_c1 h sa⟩
theorem d_t1 {x : Str} {id : String} {r : RC} {g : D → Option D} {ea : Expr} {a : Env → Option D} {p pos : Pos} (hc : ∀ X, Good Γ N sc X → CallR X (.type id) r) (hv : bootBuiltins x = some (.type id)) (hn : x ≠ "__name__") (hdb : (x == ("__debug__" : Str)) = false)
    (h : Op1 Γ κ r g) (hg : glB sc x = true) (hm : Γ.mg x = none) (ha : DV Γ N sc κ1 ea a) (hs : Pl1 ea []) : DV Γ N sc κ (.Call (.Name x p) [ea] [] pos) (f1 g a) := by
  obtain ⟨ta, pa, sa⟩ := ha.ex
  exact ⟨_, fun X gX => pe_callTy (hc X gX) (gl_of gX hg) (by rw [gX.mg]; exact hm) hv (pa_cons (pa X gX) pa_nil (hs _)) hn hdb (hs _) rfl, sem_c1 h sa⟩
theorem d_b2 {x : Str} {id : String} {r : RC} {g : D → D → Option D} {ea eb : Expr} {a b : Env → Option D} {p pos : Pos} (hc : ∀ X, Good Γ N sc X → CallR X (.builtin id) r) (hv : bootBuiltins x = some (.builtin id)) (hn : x ≠ "__name__") (hdb : (x == ("__debug__" : Str)) = false)
    (h : Op1b Γ κ r g) (hg : glB sc x = true) (hm : Γ.mg x = none) (ha : DV Γ N sc κ1 ea a) (hb : DV Γ N sc κ2 eb b) (hs : Pl1 ea [eb]) (hs2 : Pl1 eb []) : DV Γ N sc κ (.Call (.Name x p) [ea, eb] [] pos) (f2 g a b) := by
  obtain ⟨ta, pa, sa⟩ := ha.ex
  obtain ⟨tb, pb, sb⟩ := hb.ex
  refine ⟨_, fun X gX => pe_callB (hc X gX) (gl_of gX hg) (by rw [gX.mg]; exact hm) hv (pa_cons (pa X gX) (pa_cons (pb X gX) pa_nil (hs2 _)) (hs _)) hn hdb (hs _) ?_, sem_c2 h sa sb⟩
  rw [hs2]; rfl
def lenD : D → Option D
  | .str z => if z.length < big then some (.int z.length) else none
  | .tup xs => some (.int xs.length)
  | .lst xs => some (.int xs.length)
  | .scr ns => some (.int ns.length)
  | _ => none
theorem o_len : Op1 Γ .e (fun xs H Q => ∃ x n, xs = [x] ∧ LenV Γ.K x H n ∧ Q (.int n) H) lenD := by
  intro G H x d z s rx h Q q
  cases d with
  | str w =>
    have h : (if w.length < big then some (D.int w.length) else none) = some z := h
    split at h
    · rename_i hl
      cases h
      exact ⟨x, w.length, rfl, by rw [rx.str]; exact ⟨Nat.le_of_lt (big_lt hl), rfl⟩, q G H _ (Grow.refl s) (.int _)⟩
    · cases h
  | tup ds =>
    cases h
    obtain ⟨a, vs, rfl, h1, h2⟩ := rx.tup
    exact ⟨_, ds.length, rfl, .inr ⟨vs, SqT.of (s.tup h1), h2.length.symm⟩, q G H _ (Grow.refl s) (.int _)⟩
  | lst ds =>
    cases h
    obtain ⟨a, vs, rfl, h1, h2⟩ := rx.lst s
    exact ⟨_, ds.length, rfl, .inl ⟨vs, SqL.of h1, h2.length.symm⟩, q G H _ (Grow.refl s) (.int _)⟩
  | scr ns =>
    cases h
    obtain ⟨a, rfl, h1⟩ := rx.scr s
    exact ⟨_, ns.length, rfl, .inl ⟨_, h1, by rw [List.length_map]⟩, q G H _ (Grow.refl s) (.int _)⟩
  | _ => cases h
theorem d_len {ea : Expr} {a : Env → Option D} {p pos : Pos} (hg : glB sc "len" = true) (hm : Γ.mg "len" = none) (ha : DV Γ N sc κ1 ea a) (hs : Pl1 ea [] := by exact fun _ => rfl) : DV Γ N sc .e (.Call (.Name "len" p) [ea] [] pos) (f1 lenD a) :=
  d_b1 (fun X g => g.K ▸ call_len) PySem.boot_len (by decide) (by decide) o_len hg hm ha hs
def absD : D → Option D
  | .int i => some (.int (if i < 0 then -i else i))
  | _ => none
theorem d_abs {ea : Expr} {a : Env → Option D} {p pos : Pos} (hg : glB sc "abs" = true) (hm : Γ.mg "abs" = none) (ha : DV Γ N sc κ1 ea a) (hs : Pl1 ea [] := by exact fun _ => rfl) : DV Γ N sc .e (.Call (.Name "abs" p) [ea] [] pos) (f1 absD a) :=
  d_b1 (fun X g => call_abs) (by decide +kernel) (by decide) (by decide) (fun G H x d z s rx h Q q => by
    cases d <;> cases h
    exact ⟨_, by rw [rx.int], q G H _ (Grow.refl s) (.int _)⟩) hg hm ha hs
def max2D : D → D → Option D
  | .int i, .int j => some (.int (if j > i then j else i))
  | _, _ => none
def min2D : D → D → Option D
  | .int i, .int j => some (.int (if j < i then j else i))
  | _, _ => none
theorem d_max2 {ea eb : Expr} {a b : Env → Option D} {p pos : Pos} (hg : glB sc "max" = true) (hm : Γ.mg "max" = none) (ha : DV Γ N sc κ1 ea a) (hb : DV Γ N sc κ2 eb b) (hs : Pl1 ea [eb] := by exact fun _ => rfl) (hs2 : Pl1 eb [] := by exact fun _ => rfl) : DV Γ N sc .e (.Call (.Name "max" p) [ea, eb] [] pos) (f2 max2D a b) :=
  d_b2 (fun X g => call_max2 g.calm) (by decide +kernel) (by decide) (by decide) (fun G H x y d e z s rx ry h Q q => by
    cases d <;> cases e <;> cases h
    exact ⟨_, _, by rw [rx.int, ry.int], q G H _ (Grow.refl s) (.int _)⟩) hg hm ha hb hs hs2
theorem d_min2 {ea eb : Expr} {a b : Env → Option D} {p pos : Pos} (hg : glB sc "min" = true) (hm : Γ.mg "min" = none) (ha : DV Γ N sc κ1 ea a) (hb : DV Γ N sc κ2 eb b) (hs : Pl1 ea [eb] := by exact fun _ => rfl) (hs2 : Pl1 eb [] := by exact fun _ => rfl) : DV Γ N sc .e (.Call (.Name "min" p) [ea, eb] [] pos) (f2 min2D a b) :=
  d_b2 (fun X g => call_min2 g.calm) (by decide +kernel) (by decide) (by decide) (fun G H x y d e z s rx ry h Q q => by
    cases d <;> cases e <;> cases h
    exact ⟨_, _, by rw [rx.int, ry.int], q G H _ (Grow.refl s) (.int _)⟩) hg hm ha hb hs hs2
def sumD : D → Option D
  | .lst ds => (asInts ds).bind fun ns => some (.int ns.sum)
  | .tup ds => (asInts ds).bind fun ns => some (.int ns.sum)
  | _ => none
theorem lst_ints {x : V} {ds : List D} {ns : List Int} (s : SL G H) (rx : RepB Γ.K Γ.C G H x (.lst ds)) (e : asInts ds = some ns) : ∃ a, x = .ref a ∧ H a = some (.lst (ns.map V.int)) := by
  obtain ⟨a, vs, rfl, h1, h2⟩ := rx.lst s
  rw [asInts_eq e] at h2
  rw [RepL.ints_eq ns h2] at h1
  exact ⟨a, rfl, h1⟩
def rSumA (K : PySem.W.Frag) : List V → Hp → VK → Prop := fun vs H Q => rSum K vs H Q ∨ ∃ (a : Addr) (ns : List Int), vs = [V.ref a] ∧ SqT K H a (ns.map V.int) ∧ Q (.int ns.sum) H
theorem cr_sumA {X : Cx} (hc : X.calm = true) : CallR X (.builtin "sum") (rSumA X.K) := by
  intro pins s σ H vs us Q I r h
  rcases h with h | ⟨a, ns, e, hs, q⟩
  · exact cr_sum hc pins s σ H vs us Q I r h
  · subst e
    obtain ⟨its, rv, hl, _⟩ := I.tuple hs
    have hi : IntsAre its ns := rv.ints
    have hl : s.heap.IsTuple a its.toArray := hl
    rw [Vals.ref1 r]
    obtain ⟨xs, e⟩ := hi.allInts.items
    have hn : numsOf its.toArray.toList = ns := hi.numsOf
    rw [e] at hn hl
    rw [nums_intItems] at hn
    refine PySem.W.ktm_sumG (I.ok.hd hc) hl fun h' tk t' hk => ?_
    rw [preSum_eq, List.take_of_length_le (by simp), hn]
    exact ⟨.int _, H, I.kept hk, ⟨_, rfl⟩, q⟩
theorem tup_ints {x : V} {ds : List D} {ns : List Int} (rx : RepB Γ.K Γ.C G H x (.tup ds)) (s : SL G H) (e : asInts ds = some ns) : ∃ a, x = .ref a ∧ SqT Γ.K H a (ns.map V.int) := by
  obtain ⟨a, vs, rfl, h1, h2⟩ := rx.tup
  rw [asInts_eq e] at h2
  rw [RepL.ints_eq ns h2] at h1
  exact ⟨a, rfl, SqT.of (s.tup h1)⟩
theorem d_sum {ea : Expr} {a : Env → Option D} {p pos : Pos} (hg : glB sc "sum" = true) (hm : Γ.mg "sum" = none) (ha : DV Γ N sc κ1 ea a) (hs : Pl1 ea [] := by exact fun _ => rfl) : DV Γ N sc .e (.Call (.Name "sum" p) [ea] [] pos) (f1 sumD a) :=
  d_b1 (fun X g => g.K ▸ cr_sumA g.calm) (by decide +kernel) (by decide) (by decide) (fun G H x d z s rx h Q q => by
    cases d <;> try cases h
    · rename_i ds
      have h : ((asInts ds).bind fun ns => some (D.int ns.sum)) = some z := h
      cases e : asInts ds with
      | none => rw [e] at h; cases h
      | some ns =>
        rw [e] at h; cases h
        obtain ⟨a, rfl, h1⟩ := tup_ints rx s e
        exact .inr ⟨a, ns, rfl, h1, q G H _ (Grow.refl s) (.int _)⟩
    · rename_i ds
      have h : ((asInts ds).bind fun ns => some (D.int ns.sum)) = some z := h
      cases e : asInts ds with
      | none => rw [e] at h; cases h
      | some ns =>
        rw [e] at h; cases h
        obtain ⟨a, rfl, h1⟩ := lst_ints s rx e
        exact .inl ⟨a, ns, rfl, SqL.of h1, q G H _ (Grow.refl s) (.int _)⟩) hg hm ha hs
def maxL : List Int → Int
  | [] => 0
  | [x] => x
  | x :: xs => max x (maxL xs)
theorem maxL_mem : ∀ (ns : List Int), ns ≠ [] → maxL ns ∈ ns ∧ ∀ y ∈ ns, y ≤ maxL ns
  | [], h => absurd rfl h
  | [x], _ => ⟨List.mem_singleton.mpr rfl, fun y hy => by rw [List.mem_singleton.mp hy]; exact Int.le_refl _⟩
  | x :: y :: r, _ => by
    obtain ⟨h1, h2⟩ := maxL_mem (y :: r) (by simp)
    have e : maxL (x :: y :: r) = max x (maxL (y :: r)) := rfl
    rw [e]
    refine ⟨?_, fun z hz => ?_⟩
    · by_cases q : x ≤ maxL (y :: r)
      · rw [Int.max_eq_right q]; exact List.mem_cons_of_mem _ h1
      · rw [Int.max_eq_left (by omega)]; exact List.mem_cons_self
    · rcases List.mem_cons.mp hz with rfl | hz
      · omega
      · have := h2 z hz; omega
def maxD : D → Option D
  | .lst ds => (asInts ds).bind fun ns => if ns ≠ [] then some (.int (maxL ns)) else none
  | _ => none
theorem d_max {ea : Expr} {a : Env → Option D} {p pos : Pos} (hg : glB sc "max" = true) (hm : Γ.mg "max" = none) (ha : DV Γ N sc κ1 ea a) (hs : Pl1 ea [] := by exact fun _ => rfl) : DV Γ N sc .e (.Call (.Name "max" p) [ea] [] pos) (f1 maxD a) :=
  d_b1 (fun X g => g.K ▸ cr_max g.calm) (by decide +kernel) (by decide) (by decide) (fun G H x d z s rx h Q q => by
    cases d <;> try cases h
    rename_i ds
    have h : ((asInts ds).bind fun ns => if ns ≠ [] then some (D.int (maxL ns)) else none) = some z := h
    cases e : asInts ds with
    | none => rw [e] at h; cases h
    | some ns =>
      simp only [e, Option.bind_some] at h
      split at h
      · rename_i hne
        cases h
        obtain ⟨a, rfl, h1⟩ := lst_ints s rx e
        refine ⟨a, ns, rfl, SqL.of h1, List.length_pos_iff.mpr hne, fun m hm1 hm2 => ?_⟩
        obtain ⟨k1, k2⟩ := maxL_mem ns hne
        have : m = maxL ns := Int.le_antisymm (k2 m hm1) (hm2 _ k1)
        rw [this]
        exact q G H _ (Grow.refl s) (.int _)
      · cases h) hg hm ha hs
def anyD : D → Option D
  | .lst ds => (asBls ds).bind fun ns => some (.bl (ns.any id))
  | _ => none
def allD : D → Option D
  | .lst ds => (asBls ds).bind fun ns => some (.bl (ns.all id))
  | _ => none
theorem lst_bls {x : V} {ds : List D} {ns : List Bool} (s : SL G H) (rx : RepB Γ.K Γ.C G H x (.lst ds)) (e : asBls ds = some ns) : ∃ a, x = .ref a ∧ H a = some (.lst (ns.map V.bl)) := by
  obtain ⟨a, vs, rfl, h1, h2⟩ := rx.lst s
  rw [asBls_eq e] at h2
  rw [RepL.bls_eq ns h2] at h1
  exact ⟨a, rfl, h1⟩
theorem d_any {ea : Expr} {a : Env → Option D} {p pos : Pos} (hg : glB sc "any" = true) (hm : Γ.mg "any" = none) (ha : DV Γ N sc κ1 ea a) (hs : Pl1 ea [] := by exact fun _ => rfl) : DV Γ N sc .e (.Call (.Name "any" p) [ea] [] pos) (f1 anyD a) :=
  d_b1 (fun X g => g.K ▸ cr_any g.calm) (by decide +kernel) (by decide) (by decide) (fun G H x d z s rx h Q q => by
    cases d <;> try cases h
    rename_i ds
    have h : ((asBls ds).bind fun ns => some (D.bl (ns.any id))) = some z := h
    cases e : asBls ds with
    | none => rw [e] at h; cases h
    | some ns =>
      rw [e] at h; cases h
      obtain ⟨a, rfl, h1⟩ := lst_bls s rx e
      exact ⟨a, ns, rfl, SqL.of h1, q G H _ (Grow.refl s) (.bl _)⟩) hg hm ha hs
theorem d_all {ea : Expr} {a : Env → Option D} {p pos : Pos} (hg : glB sc "all" = true) (hm : Γ.mg "all" = none) (ha : DV Γ N sc κ1 ea a) (hs : Pl1 ea [] := by exact fun _ => rfl) : DV Γ N sc .e (.Call (.Name "all" p) [ea] [] pos) (f1 allD a) :=
  d_b1 (fun X g => g.K ▸ cr_all g.calm) (by decide +kernel) (by decide) (by decide) (fun G H x d z s rx h Q q => by
    cases d <;> try cases h
    rename_i ds
    have h : ((asBls ds).bind fun ns => some (D.bl (ns.all id))) = some z := h
    cases e : asBls ds with
    | none => rw [e] at h; cases h
    | some ns =>
      rw [e] at h; cases h
      obtain ⟨a, rfl, h1⟩ := lst_bls s rx e
      exact ⟨a, ns, rfl, SqL.of h1, q G H _ (Grow.refl s) (.bl _)⟩) hg hm ha hs
def tupleD : D → Option D
  | .lst ds => some (.tup ds)
  | .tup ds => some (.tup ds)
  | _ => none
theorem d_tuple {ea : Expr} {a : Env → Option D} {p pos : Pos} (hg : glB sc "tuple" = true) (hm : Γ.mg "tuple" = none) (ha : DV Γ N sc κ1 ea a) (hs : Pl1 ea [] := by exact fun _ => rfl) : DV Γ N sc .e (.Call (.Name "tuple" p) [ea] [] pos) (f1 tupleD a) :=
  d_t1 (r := fun xs H Q => ∃ p ys, xs = [.ref p] ∧ ((SqL Γ.K H p ys ∧ ∀ l, H l = none → Q (.ref l) (upd H l (.tup ys))) ∨ (SqT Γ.K H p ys ∧ Q (.ref p) H))) (fun X g => g.K ▸ call_tuple_of) (by decide +kernel) (by decide) (by decide) (fun G H x d z s rx h Q q => by
    cases d <;> try cases h
    · obtain ⟨a, vs, rfl, h1, h2⟩ := rx.tup
      exact ⟨a, vs, rfl, .inr ⟨SqT.of (s.tup h1), q G H _ (Grow.refl s) (.tup h1 h2)⟩⟩
    · obtain ⟨a, vs, rfl, h1, h2⟩ := rx.lst s
      exact ⟨a, vs, rfl, .inl ⟨SqL.of h1, fun l hl => q _ _ _ (Grow.new s hl) (.tup upd_same (h2.mono (SL.new (s.free hl))))⟩⟩) hg hm ha hs
def listD : D → Option D
  | .lst ds => some (.lst ds)
  | .tup ds => some (.lst ds)
  | _ => none
theorem d_list {ea : Expr} {a : Env → Option D} {p pos : Pos} (hg : glB sc "list" = true) (hm : Γ.mg "list" = none) (ha : DV Γ N sc κ1 ea a) (hs : Pl1 ea [] := by exact fun _ => rfl) : DV Γ N sc .f (.Call (.Name "list" p) [ea] [] pos) (f1 listD a) :=
  d_t1 (r := fun xs H Q => ∃ p ys, xs = [.ref p] ∧ (SqL Γ.K H p ys ∨ SqT Γ.K H p ys) ∧ ∀ l, H l = none → Q (.ref l) (upd H l (.lst ys))) (fun X g => g.K ▸ call_list_of) (by decide +kernel) (by decide) (by decide) (fun G H x d z s rx h Q q => by
    cases d <;> try cases h
    · obtain ⟨a, vs, rfl, h1, h2⟩ := rx.tup
      exact ⟨a, vs, rfl, .inr (SqT.of (s.tup h1)), fun l hl => q _ _ _ (Grow.newH s hl) ⟨l, rfl, hl, s.free hl, vs, upd_same, h2⟩⟩
    · obtain ⟨a, vs, rfl, h1, h2⟩ := rx.lst s
      exact ⟨a, vs, rfl, .inl (SqL.of h1), fun l hl => q _ _ _ (Grow.newH s hl) ⟨l, rfl, hl, s.free hl, vs, upd_same, h2⟩⟩) hg hm ha hs
def intD : D → Option D
  | .int i => some (.int i)
  | .bl k => some (.int (if k then 1 else 0))
  | _ => none
theorem d_int1 {ea : Expr} {a : Env → Option D} {p pos : Pos} (hg : glB sc "int" = true) (hm : Γ.mg "int" = none) (ha : DV Γ N sc κ1 ea a) (hs : Pl1 ea [] := by exact fun _ => rfl) : DV Γ N sc .e (.Call (.Name "int" p) [ea] [] pos) (f1 intD a) :=
  d_t1 (fun X g => call_int1) (by decide +kernel) (by decide) (by decide) (fun G H x d z s rx h Q q => by
    cases d <;> cases h
    · exact .inr ⟨_, by rw [rx.bl], q G H _ (Grow.refl s) (.int _)⟩
    · exact .inl ⟨_, by rw [rx.int], q G H _ (Grow.refl s) (.int _)⟩) hg hm ha hs
/-! ### isinstance -/
def tyD : D → Option String
  | .non => some "NoneType"
  | .bl _ => some "bool"
  | .int _ => some "int"
  | .str _ => some "str"
  | .tup _ => some "tuple"
  | .lst _ => some "list"
  | _ => none
theorem tyD_ok {t : String} {x : V} (s : SL G H) (r : RepB Γ.K Γ.C G H x d) (h : tyD d = some t) : TyX Γ.K H x (.type t) := by
  cases d <;> cases h
  · rw [r.non]; exact .base .non
  · rw [r.bl]; exact .base (.bl _)
  · rw [r.int]; exact .base (.int _)
  · rw [r.str]; exact .base (.str _)
  · obtain ⟨a, vs, rfl, h1, h2⟩ := r.tup
    exact .base (.tup (s.tup h1))
  · obtain ⟨a, vs, rfl, h1, h2⟩ := r.lst s
    exact .base (.lst h1)
/-- T one of int, bool, tuple -/
def isiB (T : String) (t : String) : Option Bool := if T = "int" then some (t == "int" || t == "bool") else if T = "bool" then some (t == "bool") else if T = "tuple" then some (t == "tuple") else none
theorem isiB_ok {T t : String} {b : Bool} (ht : t = "NoneType" ∨ t = "bool" ∨ t = "int" ∨ t = "str" ∨ t = "tuple" ∨ t = "list") (h : isiB T t = some b) : kitB t T = some b := by
  unfold isiB at h
  split at h
  · rename_i e; subst e
    rcases ht with rfl | rfl | rfl | rfl | rfl | rfl <;> cases h <;> decide +kernel
  · split at h
    · rename_i e; subst e
      rcases ht with rfl | rfl | rfl | rfl | rfl | rfl <;> cases h <;> decide +kernel
    · split at h
      · rename_i e; subst e
        rcases ht with rfl | rfl | rfl | rfl | rfl | rfl <;> cases h <;> decide +kernel
      · cases h
theorem tyD_in {t : String} (h : tyD d = some t) : t = "NoneType" ∨ t = "bool" ∨ t = "int" ∨ t = "str" ∨ t = "tuple" ∨ t = "list" := by
  cases d <;> cases h <;> simp
def isiD (T : String) (d : D) : Option D := (tyD d).bind fun t => (isiB T t).bind fun b => some (.bl b)
theorem d_isi {T : String} {tn : Str} {ea : Expr} {a : Env → Option D} {p p2 pos : Pos} (hT : bootBuiltins tn = some (.type T)) (htn : tn ≠ "__name__") (htd : (tn == ("__debug__" : Str)) = false) (hg : glB sc "isinstance" = true) (hm : Γ.mg "isinstance" = none) (hg2 : glB sc tn = true) (hm2 : Γ.mg tn = none) (ha : DV Γ N sc κ1 ea a) (hs : Pl1 ea [.Name tn p2] := by exact fun _ => rfl) :
    DV Γ N sc .e (.Call (.Name "isinstance" p) [ea, .Name tn p2] [] pos) (f1 (isiD T) a) := by
  obtain ⟨ta, pa, sa⟩ := ha.ex
  refine ⟨_, fun X gX => pe_callB (gX.K ▸ call_isi) (gl_of gX hg) (by rw [gX.mg]; exact hm) (by decide +kernel) (pa_cons (pa X gX) (pa_cons (pe_bltn (v := .ty T) (gl_of gX hg2) (by rw [gX.mg]; exact hm2) hT rfl htn htd) pa_nil) (hs _)) (by decide) (by decide) (hs _) rfl, fun H0 ρ σ G H Q z s E e q => ?_⟩
  unfold f1 at e
  cases eaa : a ρ with
  | none => rw [eaa] at e; cases e
  | some x =>
    rw [eaa] at e
    have e : isiD T x = some z := e
    unfold isiD at e
    cases et : tyD x with
    | none => rw [et] at e; cases e
    | some t =>
      simp only [et, Option.bind_some] at e
      cases eb : isiB T t with
      | none => rw [eb] at e; cases e
      | some b =>
        rw [eb] at e
        cases e
        refine sa H0 ρ σ G H _ x s E eaa fun G1 H1 v g1 o1 => ?_
        exact ⟨v, .ty T, .type t, .type T, b, rfl, .ty T, tyD_ok g1.s o1.b et, kit_ty (isiB_ok (tyD_in et) eb), q G1 H1 _ g1 (.bl b)⟩
theorem d_isInt {ea : Expr} {a : Env → Option D} {p p2 pos : Pos} (hg : glB sc "isinstance" = true) (hm : Γ.mg "isinstance" = none) (hg2 : glB sc "int" = true) (hm2 : Γ.mg "int" = none) (ha : DV Γ N sc κ1 ea a) (hs : Pl1 ea [.Name "int" p2] := by exact fun _ => rfl) :
    DV Γ N sc .e (.Call (.Name "isinstance" p) [ea, .Name "int" p2] [] pos) (f1 (isiD "int") a) := d_isi (by decide +kernel) (by decide) (by decide) hg hm hg2 hm2 ha hs
theorem d_isBool {ea : Expr} {a : Env → Option D} {p p2 pos : Pos} (hg : glB sc "isinstance" = true) (hm : Γ.mg "isinstance" = none) (hg2 : glB sc "bool" = true) (hm2 : Γ.mg "bool" = none) (ha : DV Γ N sc κ1 ea a) (hs : Pl1 ea [.Name "bool" p2] := by exact fun _ => rfl) :
    DV Γ N sc .e (.Call (.Name "isinstance" p) [ea, .Name "bool" p2] [] pos) (f1 (isiD "bool") a) := d_isi (by decide +kernel) (by decide) (by decide) hg hm hg2 hm2 ha hs
theorem d_isTuple {ea : Expr} {a : Env → Option D} {p p2 pos : Pos} (hg : glB sc "isinstance" = true) (hm : Γ.mg "isinstance" = none) (hg2 : glB sc "tuple" = true) (hm2 : Γ.mg "tuple" = none) (ha : DV Γ N sc κ1 ea a) (hs : Pl1 ea [.Name "tuple" p2] := by exact fun _ => rfl) :
    DV Γ N sc .e (.Call (.Name "isinstance" p) [ea, .Name "tuple" p2] [] pos) (f1 (isiD "tuple") a) := d_isi (by decide +kernel) (by decide) (by decide) hg hm hg2 hm2 ha hs
/-! ### one's own defs -/
structure HasD (Γ : Gam) (x : Str) (f : List D → Option D) : Prop where
  ex : ∃ (j : Nat) (a : Addr) (fd : FuncData) (ps : List Str), j ≤ Γ.k ∧ Γ.mg x = some (.ref a) ∧ PySem.W.keepIn Γ.K (.ref a) = true ∧ Binds Γ.K fd ps [] ∧ FnOk Γ.P Γ.w Γ.K Γ.mg Γ.base CX0 j a fd ps (spD Γ.K Γ.C f)
abbrev Gam.at (Γ : Gam) (k : Nat) : Gam := { Γ with k := k }
theorem HasD.up {x : Str} {f : List D → Option D} {j k : Nat} (h : HasD (Γ.at j) x f) (hk : j ≤ k) : HasD (Γ.at k) x f := by
  obtain ⟨i, a, fd, ps, h1, h2⟩ := h.ex
  exact ⟨i, a, fd, ps, Nat.le_trans h1 hk, h2⟩
theorem sem_sp {f : List D → Option D} {t : TA} {a : Env → Option (List D)} {E : XK} (sa : SemA Γ t a) : SemV Γ .e (tCall (spD Γ.K Γ.C f) [] E t) (fN f a) := fun H0 ρ σ G H Q z s Ev e q => by
  unfold fN at e
  cases ea : a ρ with
  | none => rw [ea] at e; cases e
  | some ds =>
    rw [ea] at e
    refine sa H0 ρ σ G H _ ds s Ev ea fun G1 H1 vs g1 o1 => ?_
    exact ⟨G1, ds, z, g1.s, by rw [List.append_nil]; exact o1, e, fun G2 H2 v g2 o2 => q G2 H2 v (g1.trans g2) o2⟩
theorem d_call {x : Str} {f : List D → Option D} {e : Expr} {es : List Expr} {a : Env → Option (List D)} {p pos : Pos} (h : HasD Γ x f) (hg : glB sc x = true) (hdb : (x == ("__debug__" : Str)) = false) (ha : DA Γ N sc (e :: es) a)
    (hs : Pl1 e es := by exact fun _ => rfl) (hpl : ∀ env : PySem.Env, (backTo pos (starEach es env)).any (·.1) = false := by exact fun _ => rfl) : DV Γ N sc .e (.Call (.Name x p) (e :: es) [] pos) (fN f a) := by
  obtain ⟨j, fa, fd, ps, hj, hm, hk, hb, hF⟩ := h.ex
  obtain ⟨t, pa, sa⟩ := ha.ex
  refine ⟨_, fun X g => ?_, sem_sp (E := E0) sa⟩
  exact pe_call (CX := CX0) (k := j) (f := fa) (fd := fd) (ps := ps) (ds := []) (dvs := []) (by rw [g.prog, g.w, g.K, g.mg, g.base]; exact hF) (g.room.mono hj) (gl_of g hg) (by rw [g.mg]; exact hm) (by rw [g.K]; exact hk) (by rw [g.K]; exact hb) .nil pass0 (pa X g) hdb (hs _) (hpl _)
/-! ### the net's fields and methods -/
structure NetC (Γ : Gam) : Prop where
  cl : Cls Γ.K Γ.C
  nf : NoAttr Γ.K Γ.C "fars"
  nt : NoAttr Γ.K Γ.C "turns"
  ni : NoAttr Γ.K Γ.C "inside"
def farsD : D → Option D
  | .net f _ _ => some f
  | _ => none
def turnsD : D → Option D
  | .net _ t _ => some t
  | _ => none
def insideD : D → Option D
  | .net _ _ .non => none
  | .net _ _ i => some i
  | _ => none
theorem insideD_eq {f t i z : D} (h : insideD (.net f t i) = some z) : i = z ∧ i ≠ .non := by
  cases i <;> first | cases h | skip
  all_goals exact ⟨rfl, fun e => by cases e⟩
theorem RepB.net {f t i : D} {x : V} (r : RepB Γ.K Γ.C G H x (.net f t i)) : Rep Γ.K Γ.C G x (.net f t i) := by
  rcases r with r | ⟨a, rfl, r⟩
  · exact r
  · exact r.elim
theorem look_f {v1 v2 v3 : V} : ([("fars", v1), ("turns", v2), ("inside", v3)] : List (Str × V)).lookup ("fars" : Str) = some v1 := by rfl
theorem look_t {v1 v2 v3 : V} : ([("fars", v1), ("turns", v2), ("inside", v3)] : List (Str × V)).lookup ("turns" : Str) = some v2 := by rfl
theorem look_i {v1 v2 v3 : V} : ([("fars", v1), ("turns", v2), ("inside", v3)] : List (Str × V)).lookup ("inside" : Str) = some v3 := by rfl
theorem d_fars {ea : Expr} {a : Env → Option D} {pos : Pos} (C : NetC Γ) (ha : DV Γ N sc κ1 ea a) (hb : ∀ env : PySem.Env, attributeBase ea "fars" env (eval ea env) = eval ea env := by exact fun _ => rfl) : DV Γ N sc .e (.Attribute ea "fars" pos) (f1 farsD a) := by
  obtain ⟨ta, pa, sa⟩ := ha.ex
  refine ⟨_, fun X g => g.K ▸ pe_fld (pa X g) (hb _), fun H0 ρ σ G H Q z s E e q => ?_⟩
  unfold f1 at e
  cases eaa : a ρ with
  | none => rw [eaa] at e; cases e
  | some x =>
    rw [eaa] at e
    cases x <;> cases e
    refine sa H0 ρ σ G H _ _ s E eaa fun G1 H1 v g1 o1 => ?_
    cases o1.b.net with
    | net h1 r1 r2 r3 => exact ⟨_, _, _, _, _, rfl, g1.s.ins h1, C.cl, C.nf, look_f, q G1 H1 _ g1 r1⟩
    | netP h1 r1 r2 => exact ⟨_, _, _, _, _, rfl, g1.s.ins h1, C.cl, C.nf, look_f, q G1 H1 _ g1 r1⟩
theorem d_turns {ea : Expr} {a : Env → Option D} {pos : Pos} (C : NetC Γ) (ha : DV Γ N sc κ1 ea a) (hb : ∀ env : PySem.Env, attributeBase ea "turns" env (eval ea env) = eval ea env := by exact fun _ => rfl) : DV Γ N sc .e (.Attribute ea "turns" pos) (f1 turnsD a) := by
  obtain ⟨ta, pa, sa⟩ := ha.ex
  refine ⟨_, fun X g => g.K ▸ pe_fld (pa X g) (hb _), fun H0 ρ σ G H Q z s E e q => ?_⟩
  unfold f1 at e
  cases eaa : a ρ with
  | none => rw [eaa] at e; cases e
  | some x =>
    rw [eaa] at e
    cases x <;> cases e
    refine sa H0 ρ σ G H _ _ s E eaa fun G1 H1 v g1 o1 => ?_
    cases o1.b.net with
    | net h1 r1 r2 r3 => exact ⟨_, _, _, _, _, rfl, g1.s.ins h1, C.cl, C.nt, look_t, q G1 H1 _ g1 r2⟩
    | netP h1 r1 r2 => exact ⟨_, _, _, _, _, rfl, g1.s.ins h1, C.cl, C.nt, look_t, q G1 H1 _ g1 r2⟩
theorem d_inside {ea : Expr} {a : Env → Option D} {pos : Pos} (C : NetC Γ) (ha : DV Γ N sc κ1 ea a) (hb : ∀ env : PySem.Env, attributeBase ea "inside" env (eval ea env) = eval ea env := by exact fun _ => rfl) : DV Γ N sc .e (.Attribute ea "inside" pos) (f1 insideD a) := by
  obtain ⟨ta, pa, sa⟩ := ha.ex
  refine ⟨_, fun X g => g.K ▸ pe_fld (pa X g) (hb _), fun H0 ρ σ G H Q z s E e q => ?_⟩
  unfold f1 at e
  cases eaa : a ρ with
  | none => rw [eaa] at e; cases e
  | some x =>
    rw [eaa] at e
    cases x <;> try cases e
    obtain ⟨e1, e2⟩ := insideD_eq e
    subst e1
    refine sa H0 ρ σ G H _ _ s E eaa fun G1 H1 v g1 o1 => ?_
    cases o1.b.net with
    | netP h1 r1 r2 => exact absurd rfl e2
    | net h1 r1 r2 r3 => exact ⟨_, _, _, _, _, rfl, g1.s.ins h1, C.cl, C.ni, look_i, q G1 H1 _ g1 r3⟩
structure HasM (Γ : Gam) (m : Str) (f : List D → Option D) : Prop where
  no : ∀ v1 v2 v3 : V, ([("fars", v1), ("turns", v2), ("inside", v3)] : List (Str × V)).lookup m = none
  ex : ∃ (j : Nat) (a : Addr) (fd : FuncData) (ps : List Str), j ≤ Γ.k ∧ Meth Γ.K Γ.C m a ∧ Binds Γ.K fd ps [] ∧ FnOk Γ.P Γ.w Γ.K Γ.mg Γ.base CX0 j a fd ps (spD Γ.K Γ.C f)
theorem HasM.up {x : Str} {f : List D → Option D} {j k : Nat} (h : HasM (Γ.at j) x f) (hk : j ≤ k) : HasM (Γ.at k) x f := by
  obtain ⟨i, a, fd, ps, h1, h2⟩ := h.ex
  exact ⟨h.no, i, a, fd, ps, Nat.le_trans h1 hk, h2⟩
def netB : D → Bool
  | .net _ _ _ => true
  | _ => false
def fM (f : List D → Option D) (o : Env → Option D) (a : Env → Option (List D)) : Env → Option D := fun ρ => (o ρ).bind fun x => (a ρ).bind fun ds => if netB x then f (x :: ds) else none
theorem sem_meth {m : Str} {f : List D → Option D} {to : TE} {t : TA} {o : Env → Option D} {a : Env → Option (List D)} {E : XK} (no : ∀ v1 v2 v3 : V, ([("fars", v1), ("turns", v2), ("inside", v3)] : List (Str × V)).lookup m = none) (so : SemV Γ κ to o) (sa : SemA Γ t a) :
    SemV Γ .e (tMeth Γ.C m (spD Γ.K Γ.C f) [] E to t) (fM f o a) := fun H0 ρ σ G H Q z s Ev e q => by
  unfold fM at e
  cases eo : o ρ with
  | none => rw [eo] at e; cases e
  | some x =>
    cases ea : a ρ with
    | none => simp only [eo, ea, Option.bind_some] at e; cases e
    | some ds =>
      simp only [eo, ea, Option.bind_some] at e
      cases x <;> first | cases e | skip
      have e : f (_ :: ds) = some z := e
      refine so H0 ρ σ G H _ _ s Ev eo fun G1 H1 v g1 o1 => ?_
      cases o1.b.net with
      | net h1 r1 r2 r3 =>
        refine ⟨_, _, _, rfl, g1.s.ins h1, no _ _ _, ?_⟩
        refine sa H0 ρ σ G1 H1 _ ds g1.s (Ev.grow g1) ea fun G2 H2 vs g2 o2 => ?_
        refine ⟨G2, _, z, g2.s, ?_, e, fun G3 H3 v g3 o3 => q G3 H3 v ((g1.trans g2).trans g3) o3⟩
        rw [List.append_nil]
        exact .cons ((Rep.net h1 r1 r2 r3).mono g2.g) o2
      | netP h1 r1 r2 =>
        refine ⟨_, _, _, rfl, g1.s.ins h1, no _ _ _, ?_⟩
        refine sa H0 ρ σ G1 H1 _ ds g1.s (Ev.grow g1) ea fun G2 H2 vs g2 o2 => ?_
        refine ⟨G2, _, z, g2.s, ?_, e, fun G3 H3 v g3 o3 => q G3 H3 v ((g1.trans g2).trans g3) o3⟩
        rw [List.append_nil]
        exact .cons ((Rep.netP h1 r1 r2).mono g2.g) o2
theorem d_meth {m : Str} {f : List D → Option D} {oe e : Expr} {es : List Expr} {o : Env → Option D} {a : Env → Option (List D)} {apos pos : Pos} {pl : PySem.Env → Sem Bool} (C : NetC Γ) (h : HasM Γ m f) (ho : DV Γ N sc κ oe o) (ha : DA Γ N sc (e :: es) a)
    (hs : Pl1 e es := by exact fun _ => rfl) (hpl : ∀ env : PySem.Env, (backTo pos (starEach es env)).any (·.1) = false := by exact fun _ => rfl)
    (ht : ∀ env : PySem.Env, eval (.Call (.Attribute oe m apos) (e :: es) [] pos) env = (do
      let ov ← eval oe env
      standAt apos.atName
      let (f, first) ← holding [ov] (getMethod ov m (pl env))
      callWith pos f first (backTo pos (starEach (e :: es) env)) (backToKw pos (keywordEach [] env))) := by exact fun _ => rfl) : DV Γ N sc .e (.Call (.Attribute oe m apos) (e :: es) [] pos) (fM f o a) := by
  obtain ⟨no, j, fa, fd, ps, hj, hm, hb, hF⟩ := h
  obtain ⟨to, po, so⟩ := ho.ex
  obtain ⟨t, pa, sa⟩ := ha.ex
  refine ⟨_, fun X g => ?_, sem_meth (E := E0) no so sa⟩
  exact pe_meth (pl := pl X.env) (CX := CX0) (k := j) (f := fa) (fd := fd) (ps := ps) (ds := []) (dvs := []) (po X g) (by rw [g.K]; exact C.cl) (by rw [g.K]; exact hm) (by rw [g.prog, g.w, g.K, g.mg, g.base]; exact hF) (g.room.mono hj) (by rw [g.K]; exact hb) .nil pass0 (pa X g) (hs _) (hpl _) (ht _)
theorem d_meth0 {m : Str} {f : List D → Option D} {oe : Expr} {o : Env → Option D} {apos pos : Pos} {pl : PySem.Env → Sem Bool} (C : NetC Γ) (h : HasM Γ m f) (ho : DV Γ N sc κ oe o)
    (ht : ∀ env : PySem.Env, eval (.Call (.Attribute oe m apos) [] [] pos) env = (do
      let ov ← eval oe env
      standAt apos.atName
      let (f, first) ← holding [ov] (getMethod ov m (pl env))
      callWith pos f first (backTo pos (starEach [] env)) (backToKw pos (keywordEach [] env))) := by exact fun _ => rfl) : DV Γ N sc .e (.Call (.Attribute oe m apos) [] [] pos) (fM f o fnil) := by
  obtain ⟨no, j, fa, fd, ps, hj, hm, hb, hF⟩ := h
  obtain ⟨to, po, so⟩ := ho.ex
  obtain ⟨t, pa, sa⟩ := (a_nil (Γ := Γ) (N := N) (sc := sc)).ex
  refine ⟨_, fun X g => ?_, sem_meth (E := E0) (t := tNil) no so (fun H0 ρ σ G H Q ds s E e q => by cases e; exact q G H [] (Grow.refl s) .nil)⟩
  exact pe_meth0 (pl := pl X.env) (CX := CX0) (k := j) (f := fa) (fd := fd) (ps := ps) (ds := []) (dvs := []) (po X g) (by rw [g.K]; exact C.cl) (by rw [g.K]; exact hm) (by rw [g.prog, g.w, g.K, g.mg, g.base]; exact hF) (g.room.mono hj) (by rw [g.K]; exact hb) .nil pass0 (ht _)
/-- Net(sheet) -/
def spN (K : PySem.W.Frag) (C : Addr) (f : D → Option D) : Sp := fun vs H Q _ => ∃ G H1 x dx v d n, SL G H1 ∧ H1 x = none ∧ H1 dx = none ∧ dx ≠ x ∧ vs = [.ref x, v] ∧ H = upd (upd H1 dx (.own x)) x (.ins C dx []) ∧ Rep K C G v d ∧ f d = some n ∧
  ∀ G' H', Grow G H1 G' H' → Rep K C G' (.ref x) n → Q .non H'
structure HasN (Γ : Gam) (x : Str) (f : D → Option D) : Prop where
  ex : ∃ (j : Nat) (a : Addr) (fd : FuncData) (ps : List Str), j + 1 ≤ Γ.k ∧ Γ.mg x = some (.ref Γ.C) ∧ Mk Γ.K Γ.C a ∧ Binds Γ.K fd ps [] ∧ FnOk Γ.P Γ.w Γ.K Γ.mg Γ.base CX0 j a fd ps (spN Γ.K Γ.C f)
theorem HasN.up {x : Str} {f : D → Option D} {j k : Nat} (h : HasN (Γ.at j) x f) (hk : j ≤ k) : HasN (Γ.at k) x f := by
  obtain ⟨i, a, fd, ps, h1, h2⟩ := h.ex
  exact ⟨i, a, fd, ps, Nat.le_trans h1 hk, h2⟩
theorem d_make {x : Str} {f : D → Option D} {ea : Expr} {a : Env → Option D} {p pos : Pos} (h : HasN Γ x f) (hg : glB sc x = true) (hdb : (x == ("__debug__" : Str)) = false) (ha : DV Γ N sc .e ea a) (hs : Pl1 ea [] := by exact fun _ => rfl) :
    DV Γ N sc .e (.Call (.Name x p) [ea] [] pos) (f1 f a) := by
  obtain ⟨j, fa, fd, ps, hj, hm, hk, hb, hF⟩ := h.ex
  obtain ⟨t, pa, sa⟩ := ha.ex
  refine ⟨tMake Γ.C (spN Γ.K Γ.C f) [] E0 (tCons t tNil), fun X g => ?_, fun H0 ρ σ G H Q z s E e q => ?_⟩
  · exact pe_make (CX := CX0) (k := j) (f := fa) (fd := fd) (ps := ps) (ds := []) (dvs := []) (by rw [g.K]; exact hk) (by rw [g.prog, g.w, g.K, g.mg, g.base]; exact hF) (g.room.mono hj) (gl_of g hg) (by rw [g.mg]; exact hm) (by rw [g.K]; exact hb) .nil pass0 (pa_cons (pa X g) pa_nil (hs _)) hdb (hs _) rfl
  · unfold f1 at e
    cases eaa : a ρ with
    | none => rw [eaa] at e; cases e
    | some d =>
      rw [eaa] at e
      refine sa H0 ρ σ G H _ d s E eaa fun G1 H1 v g1 o1 => fun x dx hx hdx hne => ?_
      exact ⟨G1, H1, x, dx, v, d, z, g1.s, hx, hdx, hne, rfl, rfl, o1, e, fun G2 H2 g2 o2 => ⟨rfl, q G2 H2 _ (g1.trans g2) o2⟩⟩
end
end Pv
set_option Elab.async false
set_option linter.all false
set_option maxRecDepth 100000
set_option maxHeartbeats 4000000
set_option autoImplicit false
namespace Pv
open PySem PySem.Spec PyProof.Rows L2
/-! ### what is walked: further rules over the layer -/
section
variable {X : Cx}
theorem PI.or {tg it : Expr} {w w' : TI} (h : PI X tg it w) (h' : PI X tg it w') : PI X tg it (fun σ H R => w σ H R ∨ w' σ H R) :=
  ⟨fun pins s σ H R I q => q.elim (h.run pins s σ H R I) (h'.run pins s σ H R I)⟩
/-- a dict is locked for good -/
def tFrz (td : TE) : TE := fun σ H Q => td σ H fun x H1 => (∃ d u, x = .ref d ∧ H1 d = some u ∧ Mut (some u) ∧ ∀ o, Q x (upd H1 d (.frz o u))) ∨ Q x H1
theorem pe_frz {e : Expr} {td : TE} (h : PE X e td) : PE X e (tFrz td) := by
  refine ⟨fun pins s σ H Q I q => ?_⟩
  refine thn (h.run pins s σ H _ I q) fun v s1 ⟨x, H1, I1, r1, q1⟩ => ?_
  rcases q1 with ⟨d, u, rfl, hd, mu, q1⟩ | q1
  · obtain ⟨o, I2⟩ := I1.lock hd mu
    exact ⟨_, _, I2, r1, q1 o⟩
  · exact ⟨x, H1, I1, r1, q1⟩
/-! enumerate(tuple) -/
theorem meets_enum1 {v : Value} {o : Obj} {H : Heap → Prop} (B : Begins v o H) :
    Meets (Builtin.«enumerate.__new__» ⟨[.type "enumerate", v], []⟩) (fun _ R s => H s.heap ∧
      R (.ok (.ret (.ref (s.heap.push o).objs.size))) { s with heap := (s.heap.push o).push { cls := .type "enumerate", data := .fields #[.none, .bool false, .ref s.heap.objs.size, rawInt 0, .none, .none] } }) :=
  .of_wp fun prog w A R s h => by
    obtain ⟨hp, g, d, tk, os⟩ := s; obtain ⟨h1, h⟩ := h
    have hsub := sub_enumerate
    have q1 : ∀ {A' : Around} {E : Value → Shared → Prop} {Q : Value → Shared → Prop}, Q (.ref hp.objs.size) ⟨hp.push o, g, d, tk, os⟩ → wpAny (model prog w) A' (pyIter v) Q E ⟨hp, g, d, tk, os⟩ :=
      fun q => B.iter prog w _ _ ⟨hp, g, d, tk, os⟩ _ h1 q
    wp_walk using q1
    refine wpAny_stack_any fun st => wpAny_pure ?_
    split
    · rename_i c _ _ _ _ _
      cases (c == Value.type "enumerate")
      · wp_walk using q1
        exact ⟨_, rfl, h⟩
      · wp_walk using q1
        exact ⟨_, rfl, h⟩
    · wp_walk using q1
      exact ⟨_, rfl, h⟩
theorem enum_begin1 {prog : Program} {w : World} {A : Around} {E : Value → Shared → Prop} {s : Shared} {v : Value} {o : Obj} {H : Heap → Prop} {Q : Value → Shared → Prop} (B : Begins v o H) (h1 : H s.heap)
    (h : ∀ h', IsEnum h' (s.heap.objs.size + 1) s.heap.objs.size 0 .none → h'.get? s.heap.objs.size = some o → h'.objs.size = s.heap.objs.size + 2 →
      (∀ b o, s.heap.get? b = some o → h'.get? b = some o) → Q (.ref (s.heap.objs.size + 1)) { s with heap := h' }) :
    wpAny (model prog w) A (call (.type "enumerate") [v]) Q E s := by
  refine callType_new F.called_enumerate (by decide) (F.typeCall_enumerate_1 _) (F.newCall_enumerate_1 _) (fun obj => F.args_object_init_2 obj _) F.entry_enumerate_new
    (meets_enum1 B) ⟨h1, ?_⟩
  have hz : (s.heap.push o).objs.size = s.heap.objs.size + 1 := Heap.size_push ..
  show _ ∧ _
  rw [hz]
  have he : IsEnum ((s.heap.push o).push { cls := .type "enumerate", data := .fields #[.none, .bool false, .ref s.heap.objs.size, rawInt 0, .none, .none] }) (s.heap.objs.size + 1) s.heap.objs.size 0 .none := by
    have := Heap.get?_push_size (s.heap.push o) (o := { cls := .type "enumerate", data := .fields #[.none, .bool false, .ref s.heap.objs.size, rawInt 0, .none, .none] }) rfl
    rw [hz] at this; exact this
  refine ⟨⟨_, he, rfl⟩, h _ he (Heap.get?_push_of_some _ (Heap.get?_push_size _ B.free)) (by rw [Heap.size_push, hz]) fun b o x => Heap.get?_push_of_some _ (Heap.get?_push_of_some _ x)⟩
def IteT (K : PySem.W.Frag) (a : Addr) : It :=
  ⟨fun i H => ∃ (xs : List V) (x : V), SqT K H a xs ∧ xs[i]? = some x, fun i H v H' => ∃ T x, v = .ref T ∧ H T = none ∧ H' = upd H T (.tup [.int (i : Nat), x]) ∧ ∀ xs, SqT K H a xs → xs[i]? = some x, fun i H => ∃ xs : List V, SqT K H a xs ∧ xs.length ≤ i⟩
theorem turn_enumT {P : Program} {w : World} {K : PySem.W.Frag} {elts : List Expr} {kk : Nat} {tpos : Pos} (a e it : Addr) (hai : a ≠ it) :
    Turn P w K (.Tuple elts kk tpos) (IteT K a) [e, it] e (fun i h => (∃ old, IsEnum h e it ((i : Nat) : Int) old) ∧ h.IsTupleIter it a i ∧ e ≠ it) where
  mem := by simp
  obj := fun i h st b hb => by
    obtain ⟨⟨old, he⟩, ⟨o, ho, hc, hd⟩, _⟩ := st
    have e' : b = e ∨ b = it := by simpa using hb
    rcases e' with z | z
    · rw [z]; exact ⟨_, he, fun v q => nomatch q⟩
    · rw [z]; exact ⟨o, ho, fun v q => by rw [hd] at q; cases q⟩
  keep := fun i h h' st k => let ⟨⟨old, he⟩, hi, hne⟩ := st; ⟨⟨old, k e (by simp) _ he⟩, hi.at fun o q => k it (by simp) o q, hne⟩
  item := by
    intro X hP hw hK hc i pins s σ H E I hf st hg
    subst hP hw hK
    obtain ⟨⟨old, he⟩, hit, hne⟩ := st
    obtain ⟨xs, x, hq, hx⟩ := hg
    obtain ⟨its, rv, p, hz⟩ := I.tuple hq
    obtain ⟨u, hu, ru⟩ := rv.get hx
    have hel : e < s.heap.objs.size := Heap.lt_size he
    have hil : it < s.heap.objs.size := by obtain ⟨_, q, _⟩ := hit; exact Heap.lt_size q
    have hea : e ≠ a := by
      rintro rfl
      obtain ⟨o, ho, hcl, _⟩ := p
      rw [show s.heap.get? e = some _ from he] at ho
      cases ho
      injection hcl with hh
      exact absurd hh (by decide)
    have hii : i < its.toArray.size := by
      have := (List.getElem?_eq_some_iff.mp hu).1
      simpa using this
    refine wpAny_pyNext_enum_itemD (Draws.tuple (A := X.A.in1) (I.ok.hd hc) it a hai its.toArray) he ⟨hit, p⟩ hii hne (by simp [hne, hea]) fun x' h' tk hPx ho hst' hT hsz hk => ?_
    have ex : x' = u := by
      have h1 : its.toArray[i]? = some u := by simpa using hu
      rw [h1] at hPx
      exact (Option.some.inj hPx).symm
    subst ex
    refine ⟨_, rfl, wpAny_letOwnedTupleGo_enum (s := { s with heap := h', toks := tk + 1 }) ho fun h'' he' sb => ?_⟩
    have hT2 : h''.get? s.heap.objs.size = some { cls := .type "tuple", data := .seq #[.int i tk, x'] } := (sb.2 _ (Nat.ne_of_gt hel)).trans hT
    have new : ObjOk X.prog X.w (upd H s.heap.objs.size (.tup [.int (i : Nat), x])) h'' s.heap.objs.size (.tup [.int (i : Nat), x]) :=
      ⟨by show 2 ≤ sizeLine; decide, [.int i tk, x'], .cons ⟨_, rfl⟩ (.cons ru .nil), ⟨_, hT2, rfl, _, rfl⟩⟩
    have I1 : Inv X pins σ (upd H s.heap.objs.size (.tup [.int (i : Nat), x])) { s with heap := h'', toks := tk + 1 } :=
      I.turnedNew (ch := [e, it]) (fun b ob hb q => (sb.2 b (fun z => hb (by simp [z]))).trans (hk b ob (fun z => hb (by simp [z])) (fun z => hb (by simp [z])) q)) hf (Nat.le_refl _) new
    refine ⟨.ref s.heap.objs.size, _, I1, rfl, ⟨_, x, rfl, I.hok.fresh (Nat.le_refl _), rfl, fun ys hy => by rw [I.tuple_inj hy hq]; exact hx⟩, ⟨⟨x', ?_⟩, hst'.1.at fun o q => (sb.2 it (Ne.symm hne)).trans q, hne⟩, fun b hb => ?_⟩
    · have e1 : ((i + 1 : Nat) : Int) = (i : Int) + 1 := by omega
      rw [e1]; exact he'
    · have hb' : b < s.heap.objs.size := by
        have e' : b = e ∨ b = it := by simpa using hb
        rcases e' with z | z
        · rw [z]; exact hel
        · rw [z]; exact hil
      rw [upd_ne (Nat.ne_of_lt hb')]
      exact (hf b hb).1
  done := by
    intro X hP hw hK hc i pins s σ H E I hf st hg
    subst hP hw hK
    obtain ⟨⟨old, he⟩, hit, hne⟩ := st
    obtain ⟨xs, hq, hx⟩ := hg
    obtain ⟨its, rv, p, hz⟩ := I.tuple hq
    obtain ⟨f0, f1, f2, f3, f4, f5⟩ := hf it (by simp)
    have hl := rv.length
    -- the iterator stands at i, at or behind the end
    have hT : s.TypeIs (.ref e) "enumerate" := ⟨_, he, rfl⟩
    unfold pyNext
    refine wpAny_bind (wpAny_attempt (wpAny_callSpecial?_slot (name := Str.ofString "__next__") hT F.slot_enumerate_next
      (wpAny_call_entry F.slot_enumerate_next hT F.entry_enumerate_next ?_ (F.args_enumerate_next_1 _))))
    show wpAny _ _ (field (.ref e) 2 >>= _) _ _ _
    refine wpAny_bind (wpAny_field he rfl (x := .ref it) rfl ?_)
    refine wpAny_bind (wpAny_nextOf_tuple_end (A := X.A.in1) (I.ok.hd hc) hit p (by simp; omega) fun h' x he' hx' => ?_)
    obtain ⟨o, ho, hcl⟩ := hx'
    refine wpAny_bind (wpAny_isInstance (T := "StopIteration") (b := true) ⟨o, ho, hcl⟩ isSubtype_stop ?_)
    exact wpAny_pure ⟨rfl, I.turned (t' := s.toks) (fun b o hb q => he' b o hb q) f0 f1 f3 f4 f5⟩
  self := fun A i s Q E st h => let ⟨⟨_, he⟩, _⟩ := st; wpAny_pyIter_enum he h
def iEnumT (K : PySem.W.Frag) (ta : TA) : TI := fun σ H R => ta σ H fun vs H1 => ∃ a xs, vs = [.ref a] ∧ SqT K H1 a xs ∧ R (IteT K a) H1
theorem pi_enumT {e : Expr} {ta : TA} {p pos tpos : Pos} {elts : List Expr} {kk : Nat} (hg : Gl X "enumerate") (hm : X.mg "enumerate" = none) (ha : PA X [e] ta) (hs : starEach [e] X.env = [(false, eval e X.env)] := by rfl) :
    PI X (.Tuple elts kk tpos) (.Call (.Name "enumerate" p) [e] [] pos) (iEnumT X.K ta) := by
  refine ⟨fun pins s σ H R I h => ?_⟩
  refine Call_ (ld_blt I hg hm boot_enumerate (PyProof.Rows.callWith_type1 (thn (ha.run pos pins s σ H _ I h) fun us s1 ⟨vs, H1, I1, r1, q1⟩ => ?_) hs rfl))
  obtain ⟨a, xs, ex, hq, q⟩ := q1
  subst ex
  cases r1 with
  | cons r rr =>
    cases rr
    cases r
    obtain ⟨its, rv, p', hz⟩ := I1.tuple hq
    refine enum_begin1 (begins_tuple a its.toArray) p' fun h' he hit hsz hk => wpAny_pyIter_enum he ?_
    have I2 : Inv X pins σ H1 { s1 with heap := h' } := I1.kept (t' := s1.toks) hk
    have hal : a < s1.heap.objs.size := by obtain ⟨_, ho, _⟩ := p'; exact Heap.lt_size ho
    refine ⟨s1.heap.objs.size + 1, [s1.heap.objs.size + 1, s1.heap.objs.size], _, _, H1, rfl, I2, turn_enumT a (s1.heap.objs.size + 1) s1.heap.objs.size (Nat.ne_of_lt hal), ⟨⟨.none, he⟩, ⟨_, hit, rfl, rfl⟩, Nat.succ_ne_self _⟩, fun b hb => ?_, q⟩
    have e' : b = s1.heap.objs.size + 1 ∨ b = s1.heap.objs.size := by simpa using hb
    have hle : s1.heap.objs.size ≤ b := by
      rcases e' with z | z
      · rw [z]; exact Nat.le_add_right _ _
      · rw [z]; exact Nat.le_refl _
    exact I1.fpOk hle (I1.hok.fresh hle)
theorem walk_enumT {K : PySem.W.Frag} {a : Addr} {xs : List V} : Walk (IteT K a) xs.length (fun H => SqT K H a xs) (YPair (fun i => some (.int (i : Nat))) (fun i => xs[i]?)) := by
  refine ⟨fun i _ hi q => ⟨xs, xs[i], q, by simp [hi]⟩, fun _ q => ⟨xs, q, Nat.le_refl _⟩, fun i H v H' _ q y => ?_⟩
  obtain ⟨T, x, h1, h2, h3, h4⟩ := y
  exact ⟨T, .int (i : Nat), x, h1, h2, h3, rfl, h4 xs q⟩
/-! d.items(), the keys tuples -/
def Itit (d : Addr) (o : Obj) (kvs : List (List Key × V)) : It :=
  ⟨fun i H => H d = some (.frz o (.dT kvs)) ∧ i < kvs.length, fun i H x H' => ∃ T k v q, kvs[i]? = some (k, v) ∧ x = .ref T ∧ H T = none ∧ H' = upd H T (.tup [.ref q, v]) ∧ H q = some (.tup (k.map kV)), fun i H => H d = some (.frz o (.dT kvs)) ∧ kvs.length ≤ i⟩
theorem frzT2 {pins : List (Addr × Obj)} {σ : L2.St} {H : Hp} {s : Shared} {d : Addr} {o : Obj} {kvs : List (List Key × V)} (I : Inv X pins σ H s) (h : H d = some (.frz o (.dT kvs))) :
    (d == sysModules) = false ∧ s.heap.get? d = some o ∧ o.ExactDict ∧ ∃ (es : Array DictEntry) (ep : Nat), o.data = .dict es ep ∧ es.size = kvs.length ∧
      ∀ (i : Nat) (k : List Key) (v : V), kvs[i]? = some (k, v) → ∃ (en : DictEntry) (q : Addr), es[i]? = some en ∧ en.key = .ref q ∧ H q = some (.tup (k.map kV)) ∧ RelV v en.val := by
  obtain ⟨hd, z, hs, xs, pr, o', es, ep, ho, hx, hdt, he, _⟩ := I.hok d _ h
  rw [hd] at ho
  cases ho
  refine ⟨hs, hd, hx, es, ep, hdt, ?_, fun i k v e => ?_⟩
  · have l1 : es.size = xs.length := size_of_entries he
    have l2 : kvs.length = xs.length := Paired.length pr
    omega
  · obtain ⟨b, hb, e1, e2, e3⟩ := paired_get pr e
    have q := entry_at he i
    rw [hb] at q
    exact ⟨_, b.2.1, q, rfl, e2, e3⟩
theorem turn_itemsT {P : Program} {w : World} {K : PySem.W.Frag} {kvs : List (List Key × V)} {elts : List Expr} {kk : Nat} {tpos : Pos} {d : Addr} {o : Obj} {es : Array DictEntry} {ep : Nat} (it : Addr) (hod : o.data = .dict es ep) :
    Turn P w K (.Tuple elts kk tpos) (Itit d o kvs) [it] it (fun i h => ∃ ok ov, IsItemIter h it d i kvs.length ep ok ov) where
  mem := by simp
  obj := fun i h st b hb => by
    have e : b = it := by simpa using hb
    subst e
    obtain ⟨ok, ov, e⟩ := st
    exact ⟨_, e, fun v z => nomatch z⟩
  keep := fun i h h' st k => let ⟨ok, ov, e⟩ := st; ⟨ok, ov, k it (by simp) _ e⟩
  item := by
    intro X hP hw hK hc i pins s σ H E I hf st hg
    subst hP hw hK
    obtain ⟨hd, hi⟩ := hg
    obtain ⟨hs, hgd, hx, es', ep', hdt, hsz, ent⟩ := frzT2 I hd
    obtain ⟨rfl, rfl⟩ := dict_ep hod hdt
    obtain ⟨⟨k, v⟩, hkv⟩ : ∃ p, kvs[i]? = some p := ⟨kvs[i], List.getElem?_eq_getElem hi⟩
    obtain ⟨en, q, hen, hkey, hq, rv⟩ := ent i k v hkv
    obtain ⟨ok, ov, he⟩ := st
    rw [← hsz] at he
    have hlt : it < s.heap.objs.size := Heap.lt_size he
    obtain ⟨hi', hen'⟩ := Array.getElem?_eq_some_iff.mp hen
    refine DT.nextI he ⟨o, hgd, hx, hdt⟩ hi' fun h' ho hT hz hk => ?_
    rw [hen'] at ho hT
    refine ⟨_, rfl, wpAny_letOwnedTupleGo_items (s := { s with heap := h' }) ho fun h'' he' sb => ?_⟩
    have hT2 : h''.get? s.heap.objs.size = some { cls := .type "tuple", data := .seq #[en.key, en.val] } := (sb.2 _ (Nat.ne_of_gt hlt)).trans hT
    have new : ObjOk X.prog X.w (upd H s.heap.objs.size (.tup [.ref q, v])) h'' s.heap.objs.size (.tup [.ref q, v]) :=
      ⟨by show 2 ≤ sizeLine; decide, [en.key, en.val], .cons hkey (.cons rv .nil), ⟨_, hT2, rfl, _, rfl⟩⟩
    have I1 : Inv X pins σ (upd H s.heap.objs.size (.tup [.ref q, v])) { s with heap := h'' } :=
      I.turnedNew (t' := s.toks) (ch := [it]) (fun b ob hb e => (sb.2 b (by simpa using hb)).trans (hk b ob (by simpa using hb) e)) hf (Nat.le_refl _) new
    refine ⟨.ref s.heap.objs.size, _, I1, rfl, ⟨_, k, v, q, hkv, rfl, I.hok.fresh (Nat.le_refl _), rfl, hq⟩, ⟨en.key, en.val, ?_⟩, fun b hb => ?_⟩
    · rw [← hsz]; exact he'
    · have e : b = it := by simpa using hb
      rw [e, upd_ne (Nat.ne_of_lt hlt)]
      exact (hf it (by simp)).1
  done := by
    intro X hP hw hK hc i pins s σ H E I hf st hg
    subst hP hw hK
    obtain ⟨hd, hi⟩ := hg
    obtain ⟨f0, f1, f2, f3, f4, f5⟩ := hf it (by simp)
    obtain ⟨hs, hgd, hx, es', ep', hdt, hsz, ent⟩ := frzT2 I hd
    obtain ⟨rfl, rfl⟩ := dict_ep hod hdt
    obtain ⟨ok, ov, he⟩ := st
    rw [← hsz] at he
    exact DT.endI (I.ok.hd hc) he ⟨o, hgd, hx, hdt⟩ (by omega) fun h' eb => ⟨rfl, I.turned (t' := s.toks) (fun b ob hb e => eb b ob hb e) f0 f1 f3 f4 f5⟩
  self := fun A i s Q E st h => let ⟨_, _, e⟩ := st; PySem.W.kcp_self e h
def iItemsT (td : TE) : TI := fun σ H R => td σ H fun x H1 => ∃ d o kvs, x = .ref d ∧ H1 d = some (.frz o (.dT kvs)) ∧ R (Itit d o kvs) H1
theorem pi_itemsT {e : Expr} {td : TE} {apos cpos : Pos} {elts : List Expr} {kk : Nat} {tpos : Pos} (he : PE X e td) (hbase : attributeBase e "items" X.env (eval e X.env) = eval e X.env) (hline : (apos.endLine == cpos.line) = true) :
    PI X (.Tuple elts kk tpos) (.Call (.Attribute e "items" apos) [] [] cpos) (iItemsT td) := by
  refine ⟨fun pins s σ H R I h => ?_⟩
  refine wpAny_Call_method (T := "dict") (id := "dict.items") hbase rfl hline F.plainAttrs_dict F.slot_dict_items F.type_dict_items (thn (he.run pins s σ H _ I h) fun u s1 ⟨x, H1, I1, rx, d, o, kvs, ex, hd, q⟩ => ?_)
  subst ex
  obtain rfl : u = Value.ref d := rx
  obtain ⟨hs, hgd, hx, es, ep, hdt, hsz, ent⟩ := frzT2 I1 hd
  have raw : DT.Raw s1.heap d es ep := ⟨o, hgd, hx, hdt⟩
  refine ⟨raw.typeIs, ?_, ?_⟩
  · intro a z
    cases z
    exact ⟨o, hgd, hx.2.1⟩
  have I2 : Inv X pins σ H1 { s1 with heap := s1.heap.push { cls := .type "dict_items", data := .fields #[.ref d] } } := I1.kept (t' := s1.toks) fun b ob q => Heap.get?_push_of_some _ q
  have fin : wpAny (model X.prog X.w) X.A (pyIter (.ref s1.heap.objs.size)) (PIE X pins σ (.Tuple elts kk tpos) R) X.xe { s1 with heap := s1.heap.push { cls := .type "dict_items", data := .fields #[.ref d] } } := by
    refine DT.iterI (d := d) ⟨_, Heap.get?_push_size _ rfl, rfl, rfl⟩ (raw.push _) (pi_one (tk := s1.toks) I2 _ (turn_itemsT _ hdt) ⟨.none, .none, ?_⟩ q)
    rw [← hsz]
    exact Heap.get?_push_size _ rfl
  show wpAny _ _ (callWith cpos (.builtin "dict.items") [.ref d] [] []) _ X.xe s1
  exact method_meetsIn F.slot_dict_items F.entry_dict_items rfl (PySem.evalArgs_none ⟨rfl, raw.typeIs, F.args_dict_items_1 _, _, DT.meetsItems (es := es) (ep := ep) hs, raw, fin⟩)
theorem walk_itemsT {d : Addr} {o : Obj} {kvs : List (List Key × V)} : Walk (Itit d o kvs) kvs.length (fun H => H d = some (.frz o (.dT kvs)))
    (fun i H x H' => ∃ T k v q, kvs[i]? = some (k, v) ∧ x = .ref T ∧ H T = none ∧ H' = upd H T (.tup [.ref q, v]) ∧ H q = some (.tup (k.map kV))) :=
  ⟨fun _ _ hi q => ⟨q, hi⟩, fun _ q => ⟨q, Nat.le_refl _⟩, fun _ _ _ _ _ _ y => y⟩
end
end Pv
set_option Elab.async false
set_option linter.all false
set_option maxRecDepth 100000
set_option maxHeartbeats 4000000
set_option autoImplicit false
namespace Pv
open PySem PySem.Spec PyProof.Rows L2
section
variable {Γ : Gam} {N : List Str} {sc : Scope} {κ κ1 κ2 κ3 : Kd} {G H G' H' G1 H1 : Hp} {v : V} {d : D}
/-! ### what is walked -/
def SemI (Γ : Gam) (wi : TI) (F : Env → Option (List D)) : Prop := ∀ (H0 : Hp) (ρ : Env) (σ : L2.St) (G H : Hp) (R : It → Hp → Prop) (items : List D), SL G H → EnvOk Γ H0 G H ρ σ → F ρ = some items →
  (∀ (J : It) (Gp : Hp → Prop) (Y : Nat → Hp → V → Hp → Prop) (G1 H1 : Hp), Grow G H G1 H1 → Walk J items.length Gp Y → (∀ G' H', SL G1 G' → SL G' H' → Gp H') →
    (∀ (i : Nat) (H2 : Hp) (x : V) (H3 G2 : Hp), i < items.length → SL G1 G2 → SL G2 H2 → Y i H2 x H3 → ∃ G3 d, items[i]? = some d ∧ Grow G2 H2 G3 H3 ∧ Rep Γ.K Γ.C G3 x d) → R J H1) → wi σ H R
structure DI (Γ : Gam) (N : List Str) (sc : Scope) (tg it : Expr) (F : Env → Option (List D)) : Prop where
  ex : ∃ wi, (∀ X, Good Γ N sc X → PI X tg it wi) ∧ SemI Γ wi F
theorem upd_self {H : Hp} {a : Addr} {o : HO} (h : H a = some o) : upd H a o = H := by
  funext b
  by_cases hb : b = a
  · subst hb; rw [upd_same, h]
  · rw [upd_ne hb]
theorem Grow.lock {a : Addr} {o : Obj} {u : HO} (g : Grow G H G1 H1) (hg : G1 a = some u) (du : Dct u) (hH : H1 a = some u ∨ H1 a = some (.frz o u)) : Grow G H (upd G1 a (.frz o u)) (upd H1 a (.frz o u)) := by
  have sG : SL G1 (upd G1 a (.frz o u)) := fun b w e => by
    by_cases hb : b = a
    · subst hb; rw [hg] at e; cases e; exact .inr ⟨du, o, upd_same⟩
    · rw [upd_ne hb]; exact .inl e
  have sH : SL H1 (upd H1 a (.frz o u)) := fun b w e => by
    by_cases hb : b = a
    · subst hb
      rcases hH with hH | hH
      · rw [hH] at e; cases e; exact .inr ⟨du, o, upd_same⟩
      · rw [hH] at e; cases e; exact .inl upd_same
    · rw [upd_ne hb]; exact .inl e
  have nt : ∀ vs, H1 a ≠ some (.tup vs) := fun vs e => by
    rcases hH with hH | hH
    · rw [hH] at e; cases e; exact du
    · rw [hH] at e; cases e
  refine ⟨g.g.trans sG, g.h.trans sH, fun b w e => ?_, fun b h1 h2 => ?_, fun b w h1 h2 => ?_⟩
  · by_cases hb : b = a
    · subst hb; rw [upd_same] at e ⊢; exact .inl e
    · rw [upd_ne hb] at e ⊢; exact g.s b w e
  · by_cases hb : b = a
    · subst hb; exact g.n b h1 (by rw [hg]; exact fun z => nomatch z)
    · rw [upd_ne hb] at h2; exact g.n b h1 h2
  · by_cases hb : b = a
    · subst hb
      rcases g.n b h1 (by rw [hg]; exact fun z => nomatch z) with q | ⟨vs, q⟩
      · rw [h2] at q; cases q
      · exact absurd (g.x b _ h1 q) (nt vs)
    · rw [upd_ne hb]; exact g.x b w h1 h2
/-- a key's tuple is shared -/
theorem Grow.key {a : Addr} {vs : List V} (s : SL G H) (h : H a = some (.tup vs)) : Grow G H (upd G a (.tup vs)) H := by
  refine ⟨fun b w e => ?_, SL.refl _, fun b w e => ?_, fun b h1 h2 => ?_, fun _ _ _ h => h⟩
  · by_cases hb : b = a
    · subst hb
      rcases s b w e with q | ⟨dw, od, q⟩
      · rw [h] at q; cases q; exact .inl upd_same
      · rw [h] at q; cases q
    · rw [upd_ne hb]; exact .inl e
  · by_cases hb : b = a
    · subst hb; rw [upd_same] at e; cases e; exact .inl h
    · rw [upd_ne hb] at e; exact s b w e
  · by_cases hb : b = a
    · subst hb; exact .inr ⟨vs, h⟩
    · rw [upd_ne hb] at h2; exact absurd h1 h2
def seqD : D → Option (List D)
  | .lst ds => some ds
  | .tup ds => some ds
  | .dct kds => some (kds.map fun p => .tup (p.1.map D.int))
  | .dci kds => some (kds.map fun p => .int p.1)
  | .str z => some (z.cps.toList.map fun c => .str ⟨#[c]⟩)
  | _ => none
def iseq (a : Env → Option D) : Env → Option (List D) := fun ρ => (a ρ).bind seqD
theorem kk_rep (k : List Int) : RepL Γ.K Γ.C G ((kk k).map kV) (k.map D.int) := by
  rw [List.map_map]
  exact RepL.ints k
theorem map_get {α β γ : Type} {f : α → γ} {g : β → γ} {xs : List α} {ys : List β} (e : xs.map f = ys.map g) {i : Nat} {x : α} (h : xs[i]? = some x) : ∃ y, ys[i]? = some y ∧ f x = g y := by
  have h1 : (xs.map f)[i]? = some (f x) := by rw [List.getElem?_map, h]; rfl
  rw [e, List.getElem?_map] at h1
  cases q : ys[i]? with
  | none => rw [q] at h1; cases h1
  | some y => rw [q] at h1; exact ⟨y, rfl, (Option.some.inj h1).symm⟩
theorem sem_keys {kvs : List (List Key × V)} {kds : List (List Int × D)} {a : Addr} {o : Obj} {R : It → Hp → Prop} (g1 : Grow G H G1 H1) (hG : G1 a = some (.frz o (.dT kvs))) (e : kvs.map Prod.fst = kds.map fun p => kk p.1)
    (q : ∀ (J : It) (Gp : Hp → Prop) (Y : Nat → Hp → V → Hp → Prop) (G1 H1 : Hp), Grow G H G1 H1 → Walk J (kds.map fun p => D.tup (p.1.map D.int)).length Gp Y → (∀ G' H', SL G1 G' → SL G' H' → Gp H') →
      (∀ (i : Nat) (H2 : Hp) (x : V) (H3 G2 : Hp), i < (kds.map fun p => D.tup (p.1.map D.int)).length → SL G1 G2 → SL G2 H2 → Y i H2 x H3 → ∃ G3 d, (kds.map fun p => D.tup (p.1.map D.int))[i]? = some d ∧ Grow G2 H2 G3 H3 ∧ Rep Γ.K Γ.C G3 x d) → R J H1) : R (Itkt a o kvs) H1 := by
  have hl : kvs.length = (kds.map fun p => D.tup (p.1.map D.int)).length := by
    have := congrArg List.length e
    simpa using this
  refine q _ _ _ G1 H1 g1 (hl ▸ walk_keysT) (fun G' H' s1 s2 => ?_) fun i H2 x H3 G2 hi s1 s2 y => ?_
  · exact (s1.trans s2).rd (.inr ⟨o, hG⟩) |> fun h => by
      rcases h with h | ⟨o', h⟩
      · rcases (s1.trans s2) a _ hG with q | ⟨d, _⟩
        · exact q
        · exact d.elim
      · rcases (s1.trans s2) a _ hG with q | ⟨d, _⟩
        · exact q
        · exact d.elim
  · obtain ⟨rfl, k, v, qd, hk, rfl, hq⟩ := y
    obtain ⟨p, hp, ek⟩ := map_get e hk
    have ek : k = kk p.1 := ek
    subst ek
    refine ⟨upd G2 qd (.tup ((kk p.1).map kV)), .tup (p.1.map D.int), by rw [List.getElem?_map, hp]; rfl, Grow.key s2 hq, .tup upd_same (kk_rep p.1)⟩
theorem sem_keysI {kvs : List (Key × V)} {kds : List (Int × D)} {a : Addr} {o : Obj} {R : It → Hp → Prop} (g1 : Grow G H G1 H1) (hG : G1 a = some (.frz o (.dK kvs))) (e : kvs.map Prod.fst = kds.map fun p => Sum.inl p.1)
    (q : ∀ (J : It) (Gp : Hp → Prop) (Y : Nat → Hp → V → Hp → Prop) (G1 H1 : Hp), Grow G H G1 H1 → Walk J (kds.map fun p => D.int p.1).length Gp Y → (∀ G' H', SL G1 G' → SL G' H' → Gp H') →
      (∀ (i : Nat) (H2 : Hp) (x : V) (H3 G2 : Hp), i < (kds.map fun p => D.int p.1).length → SL G1 G2 → SL G2 H2 → Y i H2 x H3 → ∃ G3 d, (kds.map fun p => D.int p.1)[i]? = some d ∧ Grow G2 H2 G3 H3 ∧ Rep Γ.K Γ.C G3 x d) → R J H1) : R (Itk a o kvs) H1 := by
  have hl : kvs.length = (kds.map fun p => D.int p.1).length := by
    have := congrArg List.length e
    simpa using this
  refine q _ _ _ G1 H1 g1 (hl ▸ walk_keys) (fun G' H' s1 s2 => ?_) fun i H2 x H3 G2 hi s1 s2 y => ?_
  · rcases (s1.trans s2) a _ hG with q | ⟨d, _⟩
    · exact q
    · exact d.elim
  · obtain ⟨rfl, k, v, hk, rfl⟩ := y
    obtain ⟨p, hp, ek⟩ := map_get e hk
    have ek : k = Sum.inl p.1 := ek
    subst ek
    exact ⟨G2, .int p.1, by rw [List.getElem?_map, hp]; rfl, Grow.refl s2, .int p.1⟩
abbrev iAny (K : PySem.W.Frag) (t : TE) : TI := fun σ H R => (fun σ H R => (fun σ H R => iList K t σ H R ∨ iTup K t σ H R) σ H R ∨ iKeys (tFrz t) σ H R) σ H R ∨ iStr t σ H R
theorem sem_seq {t : TE} {a : Env → Option D} (sa : SemV Γ .e t a) : SemI Γ (iAny Γ.K t) (iseq a) := fun H0 ρ σ G H R items s E e q => by
  unfold iseq at e
  cases ea : a ρ with
  | none => rw [ea] at e; cases e
  | some x =>
    rw [ea] at e
    have e : seqD x = some items := e
    cases x with
    | lst ds =>
      cases e
      refine .inl (.inl (.inl (sa H0 ρ σ G H _ _ s E ea fun G1 H1 v g1 o1 => ?_)))
      have o1 : Rep Γ.K Γ.C G1 v (.lst items) := o1
      cases o1 with
      | lst h1 h2 =>
        rename_i a vs
        refine ⟨a, rfl, ⟨vs, SqL.of (g1.s.lst h1)⟩, q _ _ _ G1 H1 g1 (h2.length ▸ walk_list) (fun G' H' s1 s2 => SqL.of (s2.lst (s1.lst h1))) fun i H2 x H3 G2 hi s1 s2 y => ?_⟩
        obtain ⟨rfl, y⟩ := y
        obtain ⟨d, hd, r⟩ := h2.get' y
        exact ⟨G2, d, hd, Grow.refl s2, r.mono s1⟩
    | tup ds =>
      cases e
      refine .inl (.inl (.inr (sa H0 ρ σ G H _ _ s E ea fun G1 H1 v g1 o1 => ?_)))
      have o1 : Rep Γ.K Γ.C G1 v (.tup items) := o1
      cases o1 with
      | tup h1 h2 =>
        rename_i a vs
        refine ⟨a, rfl, ⟨vs, SqT.of (g1.s.tup h1)⟩, q _ _ _ G1 H1 g1 (h2.length ▸ walk_tup) (fun G' H' s1 s2 => SqT.of (s2.tup (s1.tup h1))) fun i H2 x H3 G2 hi s1 s2 y => ?_⟩
        obtain ⟨rfl, y⟩ := y
        obtain ⟨d, hd, r⟩ := h2.get' y
        exact ⟨G2, d, hd, Grow.refl s2, r.mono s1⟩
    | dct kds =>
      cases e
      refine .inl (.inr (sa H0 ρ σ G H _ _ s E ea fun G1 H1 v g1 o1 => ?_))
      have o1 : Rep Γ.K Γ.C G1 v (.dct kds) := o1
      cases o1 with
      | dct h1 h2 h3 =>
        rename_i a kvs
        rcases h1 with h1 | ⟨o, h1⟩
        · rcases g1.s a _ h1 with h4 | ⟨_, od, h4⟩
          · exact .inl ⟨a, _, rfl, h4, trivial, fun o => ⟨a, o, rfl, .inr ⟨kvs, upd_same, sem_keys (g1.lock h1 trivial (.inl h4)) upd_same h2 q⟩⟩⟩
          · refine .inr ⟨a, od, rfl, .inr ⟨kvs, h4, ?_⟩⟩
            have g2 := g1.lock (o := od) h1 trivial (.inr h4)
            rw [upd_self h4] at g2
            exact sem_keys g2 upd_same h2 q
        · refine .inr ⟨a, o, rfl, .inr ⟨kvs, ?_, sem_keys g1 h1 h2 q⟩⟩
          rcases g1.s a _ h1 with h4 | ⟨d, _⟩
          · exact h4
          · exact d.elim
    | dci kds =>
      cases e
      refine .inl (.inr (sa H0 ρ σ G H _ _ s E ea fun G1 H1 v g1 o1 => ?_))
      have o1 : Rep Γ.K Γ.C G1 v (.dci kds) := o1
      cases o1 with
      | dci h1 h2 h3 =>
        rename_i a kvs
        rcases h1 with h1 | ⟨o, h1⟩
        · rcases g1.s a _ h1 with h4 | ⟨_, od, h4⟩
          · exact .inl ⟨a, _, rfl, h4, trivial, fun o => ⟨a, o, rfl, .inl ⟨kvs, upd_same, sem_keysI (g1.lock h1 trivial (.inl h4)) upd_same h2 q⟩⟩⟩
          · refine .inr ⟨a, od, rfl, .inl ⟨kvs, h4, ?_⟩⟩
            have g2 := g1.lock (o := od) h1 trivial (.inr h4)
            rw [upd_self h4] at g2
            exact sem_keysI g2 upd_same h2 q
        · refine .inr ⟨a, o, rfl, .inl ⟨kvs, ?_, sem_keysI g1 h1 h2 q⟩⟩
          rcases g1.s a _ h1 with h4 | ⟨d, _⟩
          · exact h4
          · exact d.elim
    | str z =>
      cases e
      refine .inr (sa H0 ρ σ G H _ _ s E ea fun G1 H1 v g1 o1 => ?_)
      have o1 : Rep Γ.K Γ.C G1 v (.str z) := o1
      cases o1
      have hl : z.cps.size = (z.cps.toList.map fun c => D.str ⟨#[c]⟩).length := by rw [List.length_map, Array.length_toList]
      refine ⟨z, rfl, q _ _ _ G1 H1 g1 (hl ▸ walk_str) (fun G' H' s1 s2 => trivial) fun i H2 x H3 G2 hi s1 s2 y => ?_⟩
      obtain ⟨rfl, c, hc, rfl⟩ := y
      refine ⟨G2, .str ⟨#[c]⟩, ?_, Grow.refl s2, .str _⟩
      rw [List.getElem?_map, Array.getElem?_toList, hc]; rfl
    | _ => cases e
theorem i_seq {tg it : Expr} {a : Env → Option D} (ha : DV Γ N sc .e it a) : DI Γ N sc tg it (iseq a) := by
  obtain ⟨t, p, sa⟩ := ha.ex
  exact ⟨iAny Γ.K t, fun X g => g.K ▸ PI.or (PI.or (PI.or (pi_list (p X g)) (pi_tup (p X g))) (pi_keys (pe_frz (p X g)))) (pi_str (p X g)), sem_seq sa⟩
/-- d.items() -/
def itemsD : D → Option (List D)
  | .dct kds => some (kds.map fun p => .tup [.tup (p.1.map D.int), p.2])
  | _ => none
def iitems (a : Env → Option D) : Env → Option (List D) := fun ρ => (a ρ).bind itemsD
theorem sem_items1 {kvs : List (List Key × V)} {kds : List (List Int × D)} {a : Addr} {o : Obj} {R : It → Hp → Prop} (g1 : Grow G H G1 H1) (hG : G1 a = some (.frz o (.dT kvs))) (e : kvs.map Prod.fst = kds.map fun p => kk p.1)
    (r : RepL Γ.K Γ.C G1 (kvs.map Prod.snd) (kds.map Prod.snd))
    (q : ∀ (J : It) (Gp : Hp → Prop) (Y : Nat → Hp → V → Hp → Prop) (G1 H1 : Hp), Grow G H G1 H1 → Walk J (kds.map fun p => D.tup [.tup (p.1.map D.int), p.2]).length Gp Y → (∀ G' H', SL G1 G' → SL G' H' → Gp H') →
      (∀ (i : Nat) (H2 : Hp) (x : V) (H3 G2 : Hp), i < (kds.map fun p => D.tup [.tup (p.1.map D.int), p.2]).length → SL G1 G2 → SL G2 H2 → Y i H2 x H3 → ∃ G3 d, (kds.map fun p => D.tup [.tup (p.1.map D.int), p.2])[i]? = some d ∧ Grow G2 H2 G3 H3 ∧ Rep Γ.K Γ.C G3 x d) → R J H1) : R (Itit a o kvs) H1 := by
  have hl : kvs.length = (kds.map fun p => D.tup [.tup (p.1.map D.int), p.2]).length := by
    have := congrArg List.length e
    simpa using this
  refine q _ _ _ G1 H1 g1 (hl ▸ walk_itemsT) (fun G' H' s1 s2 => ?_) fun i H2 x H3 G2 hi s1 s2 y => ?_
  · rcases (s1.trans s2) a _ hG with q | ⟨d, _⟩
    · exact q
    · exact d.elim
  · obtain ⟨T, k, v, qd, hk, rfl, hT, rfl, hq⟩ := y
    obtain ⟨p, hp, ek⟩ := map_get e hk
    have ek : k = kk p.1 := ek
    subst ek
    have hv : (kvs.map Prod.snd)[i]? = some v := by rw [List.getElem?_map, hk]; rfl
    obtain ⟨d, hd, rd⟩ := r.get' hv
    rw [List.getElem?_map, hp] at hd
    cases hd
    have g3 : Grow G2 H2 (upd G2 qd (.tup ((kk p.1).map kV))) H2 := Grow.key s2 hq
    have g4 := g3.trans (Grow.new (o := .tup [.ref qd, v]) g3.s hT)
    have hTG : (upd G2 qd (.tup ((kk p.1).map kV))) T = none := g3.s.free hT
    refine ⟨_, .tup [.tup (p.1.map D.int), p.2], by rw [List.getElem?_map, hp]; rfl, g4, .tup upd_same (.cons ?_ (.cons ?_ .nil))⟩
    · exact (Rep.tup (K := Γ.K) (C := Γ.C) (G := upd G2 qd (.tup ((kk p.1).map kV))) upd_same (kk_rep p.1)).mono (SL.new hTG)
    · exact rd.mono (s1.trans g4.g)
theorem sem_items {t : TE} {a : Env → Option D} (sa : SemV Γ .e t a) : SemI Γ (iItemsT (tFrz t)) (iitems a) := fun H0 ρ σ G H R items s E e q => by
  unfold iitems at e
  cases ea : a ρ with
  | none => rw [ea] at e; cases e
  | some x =>
    rw [ea] at e
    have e : itemsD x = some items := e
    cases x with
    | dct kds =>
      cases e
      refine sa H0 ρ σ G H _ _ s E ea fun G1 H1 v g1 o1 => ?_
      have o1 : Rep Γ.K Γ.C G1 v (.dct kds) := o1
      cases o1 with
      | dct h1 h2 h3 =>
        rename_i a kvs
        rcases h1 with h1 | ⟨o, h1⟩
        · rcases g1.s a _ h1 with h4 | ⟨_, od, h4⟩
          · refine .inl ⟨a, _, rfl, h4, trivial, fun o => ⟨a, o, kvs, rfl, upd_same, ?_⟩⟩
            have g2 := g1.lock (o := o) h1 trivial (.inl h4)
            have sG : SL G1 (upd G1 a (.frz o (.dT kvs))) := ((Grow.refl g1.s).lock (o := o) h1 trivial (.inl h4)).g
            exact sem_items1 g2 upd_same h2 (h3.mono sG) q
          · refine .inr ⟨a, od, kvs, rfl, h4, ?_⟩
            have g2 := g1.lock (o := od) h1 trivial (.inr h4)
            have sG : SL G1 (upd G1 a (.frz od (.dT kvs))) := ((Grow.refl g1.s).lock (o := od) h1 trivial (.inr h4)).g
            rw [upd_self h4] at g2
            exact sem_items1 g2 upd_same h2 (h3.mono sG) q
        · refine .inr ⟨a, o, kvs, rfl, ?_, sem_items1 g1 h1 h2 h3 q⟩
          rcases g1.s a _ h1 with h4 | ⟨d, _⟩
          · exact h4
          · exact d.elim
    | _ => cases e
theorem i_items {e : Expr} {a : Env → Option D} {apos cpos : Pos} {elts : List Expr} {k1 : Nat} {tpos : Pos} (ha : DV Γ N sc .e e a) (hb : ∀ env : PySem.Env, attributeBase e "items" env (eval e env) = eval e env := by exact fun _ => rfl) (hl : (apos.endLine == cpos.line) = true := by rfl) :
    DI Γ N sc (.Tuple elts k1 tpos) (.Call (.Attribute e "items" apos) [] [] cpos) (iitems a) := by
  obtain ⟨t, p, sa⟩ := ha.ex
  exact ⟨_, fun X g => pi_itemsT (pe_frz (p X g)) (hb _) hl, sem_items sa⟩
/-- range -/
def rangeL (lo hi : Int) : List D := (List.range (hi - lo).toNat).map fun i => .int (lo + (i : Nat))
def irange1 (a : Env → Option D) : Env → Option (List D) := fun ρ => (a ρ).bind fun x => match x with
  | .int j => if -(2 ^ 40) ≤ j ∧ j < 2 ^ 40 then some (rangeL 0 j) else none
  | _ => none
def irange2 (a b : Env → Option D) : Env → Option (List D) := fun ρ => (a ρ).bind fun x => (b ρ).bind fun y => match x, y with
  | .int i, .int j => if -(2 ^ 40) ≤ i ∧ i < 2 ^ 40 ∧ -(2 ^ 40) ≤ j ∧ j < 2 ^ 40 then some (rangeL i j) else none
  | _, _ => none
theorem sem_range {lo : Int} {n : Nat} {R : It → Hp → Prop} {items : List D} (g1 : Grow G H G1 H1) (hl : items = (List.range n).map fun i => D.int (lo + (i : Nat)))
    (q : ∀ (J : It) (Gp : Hp → Prop) (Y : Nat → Hp → V → Hp → Prop) (G1 H1 : Hp), Grow G H G1 H1 → Walk J items.length Gp Y → (∀ G' H', SL G1 G' → SL G' H' → Gp H') →
      (∀ (i : Nat) (H2 : Hp) (x : V) (H3 G2 : Hp), i < items.length → SL G1 G2 → SL G2 H2 → Y i H2 x H3 → ∃ G3 d, items[i]? = some d ∧ Grow G2 H2 G3 H3 ∧ Rep Γ.K Γ.C G3 x d) → R J H1) : R (Itr lo n) H1 := by
  subst hl
  have hn : n = ((List.range n).map fun i => D.int (lo + (i : Nat))).length := by rw [List.length_map, List.length_range]
  have w : Walk (Itr lo n) ((List.range n).map fun i => D.int (lo + (i : Nat))).length (fun _ => True) (YFn fun i => .int (lo + (i : Nat))) := by
    have := walk_range (lo := lo) (n := n)
    rwa [← hn]
  refine q _ _ _ G1 H1 g1 w (fun G' H' s1 s2 => trivial) fun i H2 x H3 G2 hi s1 s2 y => ?_
  obtain ⟨rfl, rfl⟩ := y
  refine ⟨G2, .int (lo + (i : Nat)), ?_, Grow.refl s2, .int _⟩
  rw [← hn] at hi
  rw [List.getElem?_map, List.getElem?_range hi]; rfl
theorem i_range1 {tg e : Expr} {a : Env → Option D} {p pos : Pos} (hg : glB sc "range" = true) (hm : Γ.mg "range" = none) (ha : DV Γ N sc κ e a) (hs : Pl1 e [] := by exact fun _ => rfl) : DI Γ N sc tg (.Call (.Name "range" p) [e] [] pos) (irange1 a) := by
  obtain ⟨t, pt, sa⟩ := ha.ex
  refine ⟨_, fun X g => pi_range1 (gl_of g hg) (by rw [g.mg]; exact hm) (pa_cons (pt X g) pa_nil (hs _)) (hs _), fun H0 ρ σ G H R items s E e q => ?_⟩
  unfold irange1 at e
  cases ea : a ρ with
  | none => rw [ea] at e; cases e
  | some x =>
    rw [ea] at e
    cases x <;> try cases e
    rename_i j
    have e : (if -(2 ^ 40) ≤ j ∧ j < 2 ^ 40 then some (rangeL 0 j) else none) = some items := e
    split at e
    · rename_i hc
      cases e
      refine sa H0 ρ σ G H _ _ s E ea fun G1 H1 v g1 o1 => ⟨j, by rw [o1.b.int], by omega, by omega, sem_range g1 (by unfold rangeL; rw [Int.sub_zero]) q⟩
    · cases e
theorem i_range2 {tg e e2 : Expr} {a b : Env → Option D} {p pos : Pos} (hg : glB sc "range" = true) (hm : Γ.mg "range" = none) (ha : DV Γ N sc κ1 e a) (hb : DV Γ N sc κ2 e2 b) (hs : Pl1 e [e2] := by exact fun _ => rfl) (hs2 : Pl1 e2 [] := by exact fun _ => rfl) : DI Γ N sc tg (.Call (.Name "range" p) [e, e2] [] pos) (irange2 a b) := by
  obtain ⟨t, pt, sa⟩ := ha.ex
  obtain ⟨t2, pt2, sb⟩ := hb.ex
  refine ⟨_, fun X g => pi_range2 (gl_of g hg) (by rw [g.mg]; exact hm) (pa_cons (pt X g) (pa_cons (pt2 X g) pa_nil (hs2 _)) (hs _)) (by rw [hs, hs2]; rfl) (hs2 _), fun H0 ρ σ G H R items s E e q => ?_⟩
  unfold irange2 at e
  cases ea : a ρ with
  | none => rw [ea] at e; cases e
  | some x =>
    cases eb : b ρ with
    | none => simp only [ea, eb, Option.bind_some] at e; cases e
    | some y =>
      simp only [ea, eb, Option.bind_some] at e
      split at e
      · rename_i i j
        split at e
        · rename_i hc
          cases e
          refine sa H0 ρ σ G H _ _ s E ea fun G1 H1 v g1 o1 => ?_
          refine sb H0 ρ σ G1 H1 _ _ g1.s (E.grow g1) eb fun G2 H2 w g2 o2 => ?_
          exact ⟨i, j, by rw [o1.b.int, o2.b.int], by omega, sem_range (g1.trans g2) rfl q⟩
        · cases e
      · cases e
/-- enumerate, zip -/
def numL (ds : List D) (k : Nat) : List D := match ds with
  | [] => []
  | d :: r => .tup [.int (k : Int), d] :: numL r (k + 1)
theorem numL_length : ∀ (ds : List D) (k : Nat), (numL ds k).length = ds.length
  | [], _ => rfl
  | _ :: r, k => congrArg (· + 1) (numL_length r (k + 1))
theorem numL_get : ∀ (ds : List D) (k i : Nat), (numL ds k)[i]? = (ds[i]?).map fun d => D.tup [.int ((k + i : Nat) : Int), d]
  | [], _, _ => by simp [numL]
  | d :: r, k, 0 => by simp [numL]
  | d :: r, k, i + 1 => by
    show (numL r (k + 1))[i]? = _
    rw [numL_get r (k + 1) i, show k + 1 + i = k + (i + 1) by omega]
    rfl
def enumD : D → Option (List D)
  | .lst ds => some (numL ds 0)
  | .tup ds => some (numL ds 0)
  | _ => none
def ienum (a : Env → Option D) : Env → Option (List D) := fun ρ => (a ρ).bind enumD
theorem pair_step {G2 H2 : Hp} {T : Addr} {x y : V} {dx dy : D} (s2 : SL G2 H2) (hT : H2 T = none) (r1 : Rep Γ.K Γ.C G2 x dx) (r2 : Rep Γ.K Γ.C G2 y dy) : Grow G2 H2 (upd G2 T (.tup [x, y])) (upd H2 T (.tup [x, y])) ∧ Rep Γ.K Γ.C (upd G2 T (.tup [x, y])) (.ref T) (.tup [dx, dy]) :=
  ⟨Grow.new s2 hT, .tup upd_same (.cons (r1.mono (SL.new (s2.free hT))) (.cons (r2.mono (SL.new (s2.free hT))) .nil))⟩
theorem i_enum {e : Expr} {a : Env → Option D} {p pos : Pos} {elts : List Expr} {k1 : Nat} {tpos : Pos} (hg : glB sc "enumerate" = true) (hm : Γ.mg "enumerate" = none) (ha : DV Γ N sc .e e a) (hs : Pl1 e [] := by exact fun _ => rfl) :
    DI Γ N sc (.Tuple elts k1 tpos) (.Call (.Name "enumerate" p) [e] [] pos) (ienum a) := by
  obtain ⟨t, pt, sa⟩ := ha.ex
  refine ⟨fun σ H R => iEnum Γ.K (tCons t tNil) σ H R ∨ iEnumT Γ.K (tCons t tNil) σ H R, fun X g => g.K ▸ PI.or (pi_enum (gl_of g hg) (by rw [g.mg]; exact hm) (pa_cons (pt X g) pa_nil (hs _)) (hs _)) (pi_enumT (gl_of g hg) (by rw [g.mg]; exact hm) (pa_cons (pt X g) pa_nil (hs _)) (hs _)), fun H0 ρ σ G H R items s E e q => ?_⟩
  unfold ienum at e
  cases ea : a ρ with
  | none => rw [ea] at e; cases e
  | some x =>
    rw [ea] at e
    cases x <;> try cases e
    · rename_i ds
      refine .inr (sa H0 ρ σ G H _ _ s E ea fun G1 H1 v g1 o1 => ?_)
      have o1 : Rep Γ.K Γ.C G1 v (.tup ds) := o1
      cases o1 with
      | tup h1 h2 =>
        rename_i a vs
        refine ⟨a, vs, rfl, SqT.of (g1.s.tup h1), q _ _ _ G1 H1 g1 (by rw [numL_length, ← h2.length]; exact walk_enumT) (fun G' H' s1 s2 => SqT.of (s2.tup (s1.tup h1))) fun i H2 x H3 G2 hi s1 s2 y => ?_⟩
        obtain ⟨T, x1, x2, rfl, hT, rfl, e1, e2⟩ := y
        cases e1
        obtain ⟨d, hd, r⟩ := h2.get' e2
        obtain ⟨g3, r3⟩ := pair_step s2 hT (.int (i : Nat)) (r.mono s1)
        exact ⟨_, _, by rw [numL_get, hd, Nat.zero_add]; rfl, g3, r3⟩
    · rename_i ds
      refine .inl (sa H0 ρ σ G H _ _ s E ea fun G1 H1 v g1 o1 => ?_)
      have o1 : Rep Γ.K Γ.C G1 v (.lst ds) := o1
      cases o1 with
      | lst h1 h2 =>
        rename_i a vs
        refine ⟨a, vs, rfl, SqL.of (g1.s.lst h1), q _ _ _ G1 H1 g1 (by rw [numL_length, ← h2.length]; exact walk_enum) (fun G' H' s1 s2 => SqL.of (s2.lst (s1.lst h1))) fun i H2 x H3 G2 hi s1 s2 y => ?_⟩
        obtain ⟨T, x1, x2, rfl, hT, rfl, e1, e2⟩ := y
        cases e1
        obtain ⟨d, hd, r⟩ := h2.get' e2
        obtain ⟨g3, r3⟩ := pair_step s2 hT (.int (i : Nat)) (r.mono s1)
        exact ⟨_, _, by rw [numL_get, hd, Nat.zero_add]; rfl, g3, r3⟩
def zipL : List D → List D → List D
  | x :: xs, y :: ys => .tup [x, y] :: zipL xs ys
  | _, _ => []
theorem zipL_length : ∀ (xs ys : List D), (zipL xs ys).length = min xs.length ys.length
  | [], _ => by simp [zipL]
  | _ :: _, [] => by simp [zipL]
  | x :: xs, y :: ys => by simp [zipL, zipL_length xs ys]
theorem zipL_get : ∀ {xs ys : List D} {i : Nat} {x y : D}, xs[i]? = some x → ys[i]? = some y → (zipL xs ys)[i]? = some (.tup [x, y])
  | [], _, _, _, _, h, _ => by simp at h
  | _ :: _, [], _, _, _, _, h => by simp at h
  | a :: xs, b :: ys, 0, x, y, h1, h2 => by simp at h1 h2; subst h1; subst h2; rfl
  | a :: xs, b :: ys, i + 1, x, y, h1, h2 => zipL_get (xs := xs) (ys := ys) (by simpa using h1) (by simpa using h2)
def izip (a b : Env → Option D) : Env → Option (List D) := fun ρ => (a ρ).bind fun x => (b ρ).bind fun y => match x, y with
  | .lst xs, .lst ys => some (zipL xs ys)
  | _, _ => none
theorem i_zip {e e2 : Expr} {a b : Env → Option D} {p pos : Pos} {elts : List Expr} {k1 : Nat} {tpos : Pos} (hg : glB sc "zip" = true) (hm : Γ.mg "zip" = none) (ha : DV Γ N sc .e e a) (hb : DV Γ N sc .e e2 b) (hs : Pl1 e [e2] := by exact fun _ => rfl) (hs2 : Pl1 e2 [] := by exact fun _ => rfl) :
    DI Γ N sc (.Tuple elts k1 tpos) (.Call (.Name "zip" p) [e, e2] [] pos) (izip a b) := by
  obtain ⟨t, pt, sa⟩ := ha.ex
  obtain ⟨t2, pt2, sb⟩ := hb.ex
  refine ⟨iZip Γ.K (tCons t (tCons t2 tNil)), fun X g => g.K ▸ pi_zip (gl_of g hg) (by rw [g.mg]; exact hm) (pa_cons (pt X g) (pa_cons (pt2 X g) pa_nil (hs2 _)) (hs _)) (hs _) (by rw [hs2]; rfl), fun H0 ρ σ G H R items s E e q => ?_⟩
  unfold izip at e
  cases ea : a ρ with
  | none => rw [ea] at e; cases e
  | some x =>
    cases eb : b ρ with
    | none => simp only [ea, eb, Option.bind_some] at e; cases e
    | some y =>
      simp only [ea, eb, Option.bind_some] at e
      split at e
      case h_2 => cases e
      rename_i xs ys
      cases e
      refine sa H0 ρ σ G H _ _ s E ea fun G1 H1 v g1 o1 => ?_
      have o1 : Rep Γ.K Γ.C G1 v (.lst xs) := o1
      cases o1 with
      | lst h1 h2 =>
        rename_i a vs
        refine sb H0 ρ σ G1 H1 _ _ g1.s (E.grow g1) eb fun G2 H2 w g2 o2 => ?_
        have o2 : Rep Γ.K Γ.C G2 w (.lst ys) := o2
        cases o2 with
        | lst h3 h4 =>
          rename_i b ws
          have h1' := g2.g.lst h1
          have h2' := h2.mono g2.g
          refine ⟨a, b, vs, ws, rfl, SqL.of (g2.s.lst h1'), SqL.of (g2.s.lst h3), q _ _ _ G2 H2 (g1.trans g2) (walk_zip (by rw [zipL_length, h2'.length, h4.length])) (fun G' H' s1 s2 => ⟨SqL.of (s2.lst (s1.lst h1')), SqL.of (s2.lst (s1.lst h3))⟩) fun i H3 x H4 G3 hi s1 s2 y => ?_⟩
          obtain ⟨T, x1, x2, rfl, hT, rfl, e1, e2⟩ := y
          obtain ⟨d1, hd1, r1⟩ := h2'.get' e1
          obtain ⟨d2, hd2, r2⟩ := h4.get' e2
          obtain ⟨g5, r5⟩ := pair_step s2 hT (r1.mono s1) (r2.mono s1)
          exact ⟨_, _, zipL_get hd1 hd2, g5, r5⟩
end
end Pv
set_option Elab.async false
set_option linter.all false
set_option maxRecDepth 100000
set_option maxHeartbeats 4000000
set_option autoImplicit false
namespace Pv
open PySem PySem.Spec PyProof.Rows L2
section
variable {Γ : Gam} {N : List Str} {sc : Scope} {κ κ1 κ2 κ3 : Kd} {G H G' H' G1 H1 : Hp} {v : V} {d : D}
/-! ### targets -/
def setL (σ : L2.St) : List Nat → List V → L2.St
  | i :: is, v :: vs => setL (σ.set i (some v)) is vs
  | _, _ => σ
def setE (ρ : Env) : List Nat → List D → Env
  | i :: is, d :: ds => setE (ρ.set i (.sh d)) is ds
  | _, _ => ρ
/-- one name, or as many as a tuple has items -/
inductive Pat where
  | one (i : Nat)
  | tup (is : List Nat)
def Pat.is : Pat → List Nat
  | .one i => [i]
  | .tup is => is
def bindP (p : Pat) (d : D) (ρ : Env) : Option Env := match p, d with
  | .one i, d => some (ρ.set i (.sh d))
  | .tup is, .tup ds => if ds.length = is.length then some (setE ρ is ds) else none
  | _, _ => none
def SemG (Γ : Gam) (g : TG) (p : Pat) : Prop := ∀ (H0 : Hp) (ρ ρ' : Env) (σ : L2.St) (G H : Hp) (v : V) (d : D) (Q : L2.St → Hp → Prop), SL G H → EnvOk Γ H0 G H ρ σ → bindP p d ρ = some ρ' → Rep Γ.K Γ.C G v d →
  (∀ vs, EnvOk Γ H0 G H ρ' (setL σ p.is vs) → Q (setL σ p.is vs) H) → g v σ H Q
structure DG (Γ : Gam) (N : List Str) (sc : Scope) (top : Bool) (tg : Expr) (p : Pat) : Prop where
  ex : ∃ g, (∀ X, Good Γ N sc X → (top = true → ∀ x, X.fn x = true) → PG X tg g) ∧ SemG Γ g p
structure DGs (Γ : Gam) (N : List Str) (sc : Scope) (top : Bool) (tgs : List Expr) (is : List Nat) : Prop where
  ex : ∃ g, (∀ X, Good Γ N sc X → (top = true → ∀ x, X.fn x = true) → PGs X tgs g) ∧ ∀ (H0 : Hp) (ρ : Env) (σ : L2.St) (G H : Hp) (vs : List V) (ds : List D) (Q : L2.St → Hp → Prop), SL G H → EnvOk Γ H0 G H ρ σ → ds.length = is.length → RepL Γ.K Γ.C G vs ds →
    (EnvOk Γ H0 G H (setE ρ is ds) (setL σ is vs) → Q (setL σ is vs) H) → g vs σ H Q
/-- top: in a def's own block any name; else a plain local -/
def bndB (sc : Scope) (top : Bool) (x : Str) : Bool := if top then locB sc x else lclB sc x
theorem pg_nm {top : Bool} {X : Cx} {i : Nat} {x : Str} {pos : Pos} (g : Good Γ N sc X) (nd : N.Nodup) (hN : N[i]? = some x) (hb : bndB sc top x = true) (ht : top = true → ∀ x, X.fn x = true) : PG X (.Name x pos) (gName i) := by
  cases top with
  | true =>
    have hb : locB sc x = true := hb
    exact pg_name (by rw [g.N]; exact nd) (by rw [g.N]; exact hN) (by rw [g.sc]; exact loc_of hb) (.inl (ht rfl x))
  | false =>
    have hb : lclB sc x = true := hb
    have hl := lcl_of hb
    exact pg_name (by rw [g.N]; exact nd) (by rw [g.N]; exact hN) (by rw [g.sc]; exact .inl hl) (.inr (by rw [g.sc]; exact hl))
theorem g_one {top : Bool} {i : Nat} {x : Str} {pos : Pos} (nd : N.Nodup) (hN : N[i]? = some x) (hb : bndB sc top x = true) : DG Γ N sc top (.Name x pos) (.one i) := by
  refine ⟨gName i, fun X g ht => pg_nm g nd hN hb ht, fun H0 ρ ρ' σ G H v d Q s E e r q => ?_⟩
  cases e
  exact q [v] (E.setSh r)
theorem gs_nil {top : Bool} : DGs Γ N sc top [] [] := ⟨gNil, fun X _ _ => pgs_nil, fun H0 ρ σ G H vs ds Q s E hl r q => by
  cases ds with
  | nil => cases r; exact ⟨rfl, q E⟩
  | cons _ _ => cases hl⟩
theorem gs_cons {top : Bool} {i : Nat} {is : List Nat} {x : Str} {pos : Pos} {tgs : List Expr} (nd : N.Nodup) (hN : N[i]? = some x) (hb : bndB sc top x = true) (h : DGs Γ N sc top tgs is)
    (hs : ∀ env : PySem.Env, (assignEach (.Name x pos :: tgs) env).map (·.2) = assign (.Name x pos) env :: (assignEach tgs env).map (·.2) := by exact fun _ => rfl) : DGs Γ N sc top (.Name x pos :: tgs) (i :: is) := by
  obtain ⟨g, p, sm⟩ := h.ex
  refine ⟨gCons (gName i) g, fun X gX ht => pgs_cons (pg_nm gX nd hN hb ht) (p X gX ht) (hs _), fun H0 ρ σ G H vs ds Q s E hl r q => ?_⟩
  cases r with
  | nil => cases hl
  | cons r1 r2 => exact ⟨_, _, rfl, sm H0 _ _ G H _ _ Q s (E.setSh r1) (Nat.succ.inj hl) r2 q⟩
theorem g_tup {top : Bool} {is : List Nat} {es : List Expr} {k : Nat} {pos : Pos} (h : DGs Γ N sc top es is) (hn : ∀ env : PySem.Env, (assignEach es env).length = is.length := by exact fun _ => rfl) (hst : ∀ env : PySem.Env, (assignEach es env).findIdx? (·.1) = none := by exact fun _ => rfl) :
    DG Γ N sc top (.Tuple es k pos) (.tup is) := by
  obtain ⟨g, p, sm⟩ := h.ex
  refine ⟨gTup Γ.K is.length g, fun X gX ht => gX.K ▸ pg_tup gX.calm (p X gX ht) (hn _) (hst _), fun H0 ρ ρ' σ G H v d Q s E e r q => ?_⟩
  cases d <;> try cases e
  rename_i ds
  have e : (if ds.length = is.length then some (setE ρ is ds) else none) = some ρ' := e
  split at e
  · rename_i hl
    cases e
    cases r with
    | tup h1 h2 => exact ⟨_, _, rfl, SqT.of (s.tup h1), h2.length.trans hl, sm H0 ρ σ G H _ ds Q s E hl h2 fun E' => q _ E'⟩
  · cases e
/-! ### comprehensions -/
def wipeE (ρ : Env) : List Nat → Env
  | [] => ρ
  | v :: vs => (wipeE ρ vs).set v .no
theorem EnvOk.setNo {H0 : Hp} {ρ : Env} {σ : L2.St} (E : EnvOk Γ H0 G H ρ σ) (i : Nat) : EnvOk Γ H0 G H (ρ.set i .no) (σ.set i none) := by
  have hget : ∀ {j s}, (ρ.set i .no)[j]? = some s → s = .no ∨ (j ≠ i ∧ ρ[j]? = some s) := fun {j s} h => by
    by_cases hj : i = j
    · subst hj
      by_cases hl : i < ρ.length
      · rw [List.getElem?_set_self hl] at h; cases h; exact .inl rfl
      · rw [List.getElem?_eq_none (by simpa using hl)] at h; cases h
    · rw [List.getElem?_set_ne hj] at h
      exact .inr ⟨Ne.symm hj, h⟩
  refine ⟨by rw [List.length_set, List.length_set]; exact E.len, fun j s h => ?_, fun j k d1 d2 a h1 h2 h3 h4 h5 => ?_⟩
  · rcases hget h with rfl | ⟨hj, h⟩
    · trivial
    · rw [List.getElem?_set_ne (Ne.symm hj)]; exact E.sl j s h
  · rcases hget h2 with e | ⟨hj, h2'⟩
    · cases e
    · rcases hget h3 with e | ⟨hk, h3'⟩
      · cases e
      · rw [List.getElem?_set_ne (Ne.symm hj)] at h4
        rw [List.getElem?_set_ne (Ne.symm hk)] at h5
        exact E.ne j k d1 d2 a h1 h2' h3' h4 h5
theorem EnvOk.wipe {H0 : Hp} {ρ : Env} {σ : L2.St} (E : EnvOk Γ H0 G H ρ σ) : ∀ vs : List Nat, EnvOk Γ H0 G H (wipeE ρ vs) (wipe σ vs)
  | [] => E
  | v :: vs => (E.wipe vs).setNo v
theorem wipe_set {x : Option V} : ∀ (vs : List Nat) (σ : L2.St) (i : Nat), i ∈ vs → wipe (σ.set i x) vs = wipe σ vs
  | [], _, _, h => by cases h
  | v :: vs, σ, i, h => by
    show (wipe (σ.set i x) vs).set v none = (wipe σ vs).set v none
    by_cases hi : i ∈ vs
    · rw [wipe_set vs σ i hi]
    · have e : i = v := by
        rcases List.mem_cons.mp h with e | e
        · exact e
        · exact absurd e hi
      subst e
      have go : ∀ (us : List Nat) (τ : L2.St), i ∉ us → wipe (τ.set i x) us = (wipe τ us).set i x := fun us => by
        induction us with
        | nil => intro τ _; rfl
        | cons u us ih =>
          intro τ hn
          show (wipe (τ.set i x) us).set u none = ((wipe τ us).set u none).set i x
          rw [ih τ fun z => hn (List.mem_cons_of_mem _ z), List.set_comm _ _ (show i ≠ u from fun z => hn (by rw [z]; exact List.mem_cons_self))]
      rw [go vs σ hi, List.set_set]
theorem wipe_setL : ∀ (is : List Nat) (xs : List V) (σ : L2.St) (vs : List Nat), (∀ i ∈ is, i ∈ vs) → wipe (setL σ is xs) vs = wipe σ vs
  | [], _, _, _, _ => rfl
  | _ :: _, [], _, _, _ => rfl
  | i :: is, x :: xs, σ, vs, h => by
    show wipe (setL (σ.set i (some x)) is xs) vs = _
    rw [wipe_setL is xs _ vs fun j hj => h j (List.mem_cons_of_mem _ hj), wipe_set vs σ i (h i List.mem_cons_self)]
theorem wipe_wipe (σ : L2.St) (vs : List Nat) : ∀ us : List Nat, (∀ i ∈ us, i ∈ vs) → wipe (wipe σ us) vs = wipe σ vs
  | [], _ => rfl
  | u :: us, h => by
    show wipe ((wipe σ us).set u none) vs = _
    rw [wipe_set vs _ u (h u List.mem_cons_self), wipe_wipe σ vs us fun j hj => h j (List.mem_cons_of_mem _ hj)]
structure DTs (Γ : Gam) (N : List Str) (sc : Scope) (es : List Expr) (F : Env → Option Bool) : Prop where
  ex : ∃ t, (∀ X, Good Γ N sc X → PTs X es t) ∧ SemT Γ t F
def tyes : Env → Option Bool := fun _ => some true
theorem ts_nil : DTs Γ N sc [] tyes := ⟨tYes, fun X _ => pts_nil, fun H0 ρ σ G H Q c s E e q => by cases e; exact q G H (Grow.refl s)⟩
theorem ts_one {e : Expr} {a : Env → Option Bool} (h : DT Γ N sc e a) : DTs Γ N sc [e] a := let ⟨t, p, s⟩ := h.ex; ⟨t, fun X g => pts_one (p X g), s⟩
def lcGo (p : Pat) (T : Env → Option Bool) (E : Env → Option D) (ρ : Env) : List D → Option (List D)
  | [] => some []
  | x :: xs => (bindP p x ρ).bind fun ρ1 => (T ρ1).bind fun c => if c then (E ρ1).bind fun y => (lcGo p T E ρ xs).bind fun ys => some (y :: ys) else lcGo p T E ρ xs
def lcF (vs : List Nat) (I : Env → Option (List D)) (p : Pat) (T : Env → Option Bool) (E : Env → Option D) : Env → Option D := fun ρ => (I ρ).bind fun items => (lcGo p T E (wipeE ρ vs) items).bind fun out => if items.length < big then some (.lst out) else none
theorem Grow.updH {a : Addr} {o : HO} (g : Grow G H G' H') (g0 : G' a = none) (h0 : H a = none) : Grow G H G' (upd H' a o) := by
  refine ⟨g.g, fun b w e => ?_, fun b w e => ?_, g.n, fun b w h1 h2 => ?_⟩
  · rw [upd_ne (ne_of_none e h0)]; exact g.h b w e
  · rw [upd_ne (ne_of_none e g0)]; exact g.s b w e
  · rw [upd_ne (ne_of_none h2 h0)]; exact g.x b w h1 h2
theorem Grow.keep {a : Addr} {vs : List V} (g : Grow G H G' H') (h : H a = some (.lst vs)) (h0 : G a = none) : G' a = none := by
  by_cases q : G' a = none
  · exact q
  · rcases g.n a h0 q with e | ⟨ws, e⟩
    · rw [h] at e; cases e
    · rw [h] at e; cases e
structure DL (Γ : Gam) (N : List Str) (sc : Scope) (e : Expr) (F : Env → Option D) : Prop where
  ex : ∃ t, (∀ X, Good Γ N sc X → PE X e t ∧ ∀ (i : Nat) (y : Str) (py : Pos) (spos : Pos), N[i]? = some y → X.env.scope.names.lookup y = some .local → swapsWith e (some (.Name y py)) spos.line X.env = pure true → PS X (.Assign [.Name y py] e spos) (tAsg t (gName i))) ∧ SemV Γ .f t F
theorem DL.f {e : Expr} {F : Env → Option D} (h : DL Γ N sc e F) : DV Γ N sc .f e F := let ⟨t, p, s⟩ := h.ex; ⟨t, fun X g => (p X g).1, s⟩
theorem sem_lc {wi : TI} {I : Env → Option (List D)} {g : TG} {p : Pat} {tt : TT} {T : Env → Option Bool} {te : TE} {E : Env → Option D} {vs : List Nat} (si : SemI Γ wi I) (sg : SemG Γ g p) (hp : ∀ i ∈ p.is, i ∈ vs) (st : SemT Γ tt T) (se : SemV Γ .e te E) :
    SemV Γ .f (tLc wi g tt te vs) (lcF vs I p T E) := fun H0 ρ σ G H Q d s Ev e q => by
  unfold lcF at e
  cases ei : I ρ with
  | none => rw [ei] at e; cases e
  | some items =>
    simp only [ei, Option.bind_some] at e
    cases eo : lcGo p T E (wipeE ρ vs) items with
    | none => rw [eo] at e; cases e
    | some out =>
      simp only [eo, Option.bind_some] at e
      split at e
      · rename_i hbig
        cases e
        refine si H0 ρ σ G H _ items s Ev ei fun J Gp Y G1 H1 g1 wk hGp hY => fun Dl hD => ?_
        have hDH : H Dl = none := g1.h.free hD
        refine lc_it wk (fun i H' => ∃ G' acc o1 o2, lcGo p T E (wipeE ρ vs) (items.drop i) = some o2 ∧ o1 ++ o2 = out ∧ o1.length ≤ i ∧ Grow G H G' H' ∧ SL G1 G' ∧ G' Dl = none ∧ H' Dl = some (.lst acc) ∧ RepL Γ.K Γ.C G' acc o1)
          ⟨G1, [], [], out, by rw [List.drop_zero]; exact eo, rfl, Nat.zero_le _, g1.updH (g1.s.free hD) hDH, SL.refl _, g1.s.free hD, upd_same, .nil⟩ (fun i H' _ h => ?_) (fun i x H2 H3 hi h y => ?_) fun H' h => ?_
        · obtain ⟨G', acc, o1, o2, _, _, _, g2, s1, _⟩ := h
          exact hGp G' H' s1 g2.s
        · obtain ⟨G2, acc, o1, o2, h1, h2, h3, g2, s2, hG2, hH2, r2⟩ := h
          obtain ⟨G3, d, hd, g3, r3⟩ := hY i H2 x H3 G2 hi s2 g2.s y
          have hG3 : G3 Dl = none := g3.keep hH2 hG2
          have hH3 : H3 Dl = some (.lst acc) := g3.x _ _ hG2 hH2
          have g23 := g2.trans g3
          have hdrop : items.drop i = d :: items.drop (i + 1) := by
            obtain ⟨hl, e1⟩ := List.getElem?_eq_some_iff.mp hd
            rw [List.drop_eq_getElem_cons hl, e1]
          rw [hdrop] at h1
          have h1 : ((bindP p d (wipeE ρ vs)).bind fun ρ1 => (T ρ1).bind fun c => if c then (E ρ1).bind fun y => (lcGo p T E (wipeE ρ vs) (items.drop (i + 1))).bind fun ys => some (y :: ys) else lcGo p T E (wipeE ρ vs) (items.drop (i + 1))) = some o2 := h1
          cases eb : bindP p d (wipeE ρ vs) with
          | none => rw [eb] at h1; cases h1
          | some ρ1 =>
            simp only [eb, Option.bind_some] at h1
            cases et : T ρ1 with
            | none => rw [et] at h1; cases h1
            | some c =>
              simp only [et, Option.bind_some] at h1
              refine sg H0 _ ρ1 (wipe σ vs) G3 H3 x d _ g3.s ((Ev.wipe vs).grow g23) eb r3 fun xs E1 => ⟨?_, ?_⟩
              · rw [wipe_setL _ _ _ _ hp, wipe_wipe σ vs vs fun _ h => h]
              · refine st H0 ρ1 _ G3 H3 _ c g3.s E1 et fun G4 H4 g4 => ?_
                have hG4 : G4 Dl = none := g4.keep hH3 hG3
                have hH4 : H4 Dl = some (.lst acc) := g4.x _ _ hG3 hH3
                cases c with
                | false =>
                  rw [if_neg Bool.false_ne_true]
                  exact ⟨G4, acc, o1, o2, h1, h2, Nat.le_succ_of_le h3, g23.trans g4, s2.trans (g3.g.trans g4.g), hG4, hH4, r2.mono (g3.g.trans g4.g)⟩
                | true =>
                  rw [if_pos rfl]
                  rw [if_pos rfl] at h1
                  cases ey : E ρ1 with
                  | none => rw [ey] at h1; cases h1
                  | some y =>
                    simp only [ey, Option.bind_some] at h1
                    cases er : lcGo p T E (wipeE ρ vs) (items.drop (i + 1)) with
                    | none => rw [er] at h1; cases h1
                    | some ys =>
                      rw [er] at h1
                      cases h1
                      refine se H0 ρ1 _ G4 H4 _ y g4.s (E1.grow g4) ey fun G5 H5 yv g5 o5 => ?_
                      have hG5 : G5 Dl = none := g5.keep hH4 hG4
                      have hH5 : H5 Dl = some (.lst acc) := g5.x _ _ hG4 hH4
                      have s25 : SL G2 G5 := (g3.g.trans g4.g).trans g5.g
                      refine ⟨acc, hH5, ?_, G5, acc ++ [yv], o1 ++ [y], ys, rfl, by rw [← h2, List.append_assoc]; rfl, by rw [List.length_append]; show o1.length + 1 ≤ i + 1; omega, ((g23.trans g4).trans g5).updH hG5 hDH, s2.trans s25, hG5, upd_same, (r2.mono s25).app (.cons o5 .nil)⟩
                      rw [r2.length]
                      exact big_lt (by omega)
        · obtain ⟨G2, acc, o1, o2, h1, h2, h3, g2, s2, hG2, hH2, r2⟩ := h
          rw [List.drop_length] at h1
          cases h1
          rw [List.append_nil] at h2
          subst h2
          exact q G2 H' _ g2 ⟨Dl, rfl, hDH, hG2, acc, hH2, r2⟩
      · cases e
theorem d_lc {own : List (Str × Nat)} {elt tg iter : Expr} {ifs : List Expr} {scope : Scope} {pos : Pos} {I : Env → Option (List D)} {p : Pat} {T : Env → Option Bool} {E : Env → Option D} (nd : N.Nodup) (ok : blkC N sc scope own = true) (hi : DI Γ N sc tg iter I)
    (hg : DG Γ N (relS scope sc) false tg p) (hp : p.is.all (fun i => (own.map (·.2)).contains i) = true) (ht : DTs Γ N (relS scope sc) ifs T) (he : DV Γ N (relS scope sc) .e elt E) (hs : ∀ (env : PySem.Env) x, foldedSetIterable iter env x = pure x := by exact fun _ _ => rfl) :
    DL Γ N sc (.ListComp elt [⟨tg, iter, ifs, 0⟩] scope pos) (lcF (own.map (·.2)) I p T E) := by
  obtain ⟨wi, pi, si⟩ := hi.ex
  obtain ⟨g, pg, sg⟩ := hg.ex
  obtain ⟨tt, pt, st⟩ := ht.ex
  obtain ⟨te, pe, se⟩ := he.ex
  have hp' : ∀ i ∈ p.is, i ∈ own.map (·.2) := fun i h => by
    have := List.all_eq_true.mp hp i h
    simpa using this
  refine ⟨tLc wi g tt te (own.map (·.2)), fun X gX => ?_, sem_lc si sg hp' st se⟩
  have ok' : BlkOk X.N X.env.scope scope own := by rw [gX.N, gX.sc]; exact blkOk_by ok
  have gB : ∀ (s : Shared) (H : Hp) (C : Addr) (cl : List (Str × Addr)) (fp : List Addr), Good Γ N (relS scope sc) (X.blk s H scope (compEnvC scope cl C X.env) fp) := fun s H C cl fp =>
    ⟨gX.prog, gX.w, gX.K, gX.mg, gX.base, gX.calm, rfl, gX.room, gX.N, by rw [← gX.sc]; rfl⟩
  have nd' : X.N.Nodup := by rw [gX.N]; exact nd
  have hg' := fun s H C cl fp => pg _ (gB s H C cl fp) (fun z => nomatch z)
  have ht' := fun s H C cl fp => pt _ (gB s H C cl fp)
  have he' := fun s H C cl fp => pe _ (gB s H C cl fp)
  exact ⟨pe_lc gX.calm nd' (pi X gX) ok' hg' ht' he' (hs _), fun i y py spos hy hyl hsw => ps_setLc gX.calm nd' (by rw [gX.N]; exact hy) hyl hsw (pi X gX) ok' hg' ht' he' (hs _)⟩
end
end Pv
set_option Elab.async false
set_option linter.all false
set_option maxRecDepth 100000
set_option maxHeartbeats 4000000
set_option autoImplicit false
namespace Pv
open PySem PySem.Spec PyProof.Rows L2
inductive Res where
  | nx (ρ : Env)
  | rt (d : D)
def SemS (Γ : Gam) (t : TS) (F : Env → Option Res) : Prop := ∀ (G0 H0 : Hp) (ρ : Env) (σ : L2.St) (G H : Hp) (De : Ends) (r : Res), Grow G0 H0 G H → EnvOk Γ H0 G H ρ σ → F ρ = some r →
  (∀ (ρ' : Env) (G' H' : Hp) (σ' : L2.St), r = .nx ρ' → Grow G0 H0 G' H' → SL G G' → EnvOk Γ H0 G' H' ρ' σ' → De.nx σ' H') →
  (∀ (d : D) (G' H' : Hp) (v : V), r = .rt d → Grow G0 H0 G' H' → Rep Γ.K Γ.C G' v d → De.rt v H') → t De σ H
structure DS (Γ : Gam) (N : List Str) (sc : Scope) (st : Stmt) (F : Env → Option Res) : Prop where
  ex : ∃ t, (∀ X, Good Γ N sc X → (∀ x, X.fn x = true) → PS X st t) ∧ SemS Γ t F
structure DSs (Γ : Gam) (N : List Str) (sc : Scope) (sts : List Stmt) (F : Env → Option Res) : Prop where
  ex : ∃ t, (∀ X, Good Γ N sc X → (∀ x, X.fn x = true) → PSs X sts t) ∧ SemS Γ t F
def snx : Env → Option Res := fun ρ => some (.nx ρ)
def sseq (f g : Env → Option Res) : Env → Option Res := fun ρ => (f ρ).bind fun r => match r with
  | .nx ρ' => g ρ'
  | .rt d => some (.rt d)
def frzE (i : Nat) (ρ : Env) : Option Env := match ρ[i]? with
  | some (.ow d) => some (ρ.set i (.sh d))
  | some (.sh _) => some ρ
  | _ => none
def sfrz (i : Nat) (f : Env → Option Res) : Env → Option Res := fun ρ => (frzE i ρ).bind f
def sset (i : Nat) (a : Env → Option D) : Env → Option Res := fun ρ => (a ρ).bind fun d => some (.nx (ρ.set i (.sh d)))
def sown (i : Nat) (a : Env → Option D) : Env → Option Res := fun ρ => (a ρ).bind fun d => some (.nx (ρ.set i (.ow d)))
def sbind (p : Pat) (a : Env → Option D) : Env → Option Res := fun ρ => (a ρ).bind fun d => (bindP p d ρ).bind fun ρ' => some (.nx ρ')
def spar (i j : Nat) (a b : Env → Option D) : Env → Option Res := fun ρ => (a ρ).bind fun x => (b ρ).bind fun y => some (.nx ((ρ.set i (.sh x)).set j (.sh y)))
def sif (c : Env → Option Bool) (a b : Env → Option Res) : Env → Option Res := fun ρ => (c ρ).bind fun k => if k then a ρ else b ρ
def sret (a : Env → Option D) : Env → Option Res := fun ρ => (a ρ).bind fun d => some (.rt d)
def sdrop (a : Env → Option D) : Env → Option Res := fun ρ => (a ρ).bind fun _ => some (.nx ρ)
def forD (p : Pat) (b : Env → Option Res) : List D → Env → Option Res
  | [], ρ => some (.nx ρ)
  | x :: xs, ρ => (bindP p x ρ).bind fun ρ1 => (b ρ1).bind fun r => match r with
    | .nx ρ' => forD p b xs ρ'
    | .rt d => some (.rt d)
def sfor (I : Env → Option (List D)) (p : Pat) (b : Env → Option Res) : Env → Option Res := fun ρ => (I ρ).bind fun items => forD p b items ρ
def whileD (c : Env → Option Bool) (b : Env → Option Res) : Nat → Env → Option Res
  | 0, _ => none
  | n + 1, ρ => (c ρ).bind fun k => if k then (b ρ).bind fun r => match r with
    | .nx ρ' => whileD c b n ρ'
    | .rt d => some (.rt d)
    else some (.nx ρ)
def fuel : Nat := 1000000000
def swhile (c : Env → Option Bool) (b : Env → Option Res) : Env → Option Res := fun ρ => whileD c b fuel ρ
def sapp (i : Nat) (a : Env → Option D) : Env → Option Res := fun ρ => (a ρ).bind fun d => match ρ[i]? with
  | some (.ow (.lst ds)) => if ds.length < big then some (.nx (ρ.set i (.ow (.lst (ds ++ [d]))))) else none
  | _ => none
def sext (i : Nat) (a : Env → Option D) : Env → Option Res := fun ρ => (a ρ).bind fun d => match ρ[i]?, d with
  | some (.ow (.lst ds)), .lst es => if ds.length + es.length < big then some (.nx (ρ.set i (.ow (.lst (ds ++ es))))) else none
  | _, _ => none
def sput (i : Nat) (k a : Env → Option D) : Env → Option Res := fun ρ => (a ρ).bind fun d => (k ρ).bind fun kd => match ρ[i]?, kd with
  | some (.ow (.lst ds)), .int n => (ixN ds.length n).bind fun j => some (.nx (ρ.set i (.ow (.lst (ds.set j d)))))
  | some (.ow (.dct kds)), .tup ks => (asInts ks).bind fun ns => if kds.length < big then some (.nx (ρ.set i (.ow (.dct (putD kds ns d))))) else none
  | _, _ => none
section
variable {Γ : Gam} {N : List Str} {sc : Scope} {κ κ1 κ2 κ3 : Kd} {G H G' H' G1 H1 : Hp} {v : V} {d : D}
theorem ss_nil : DSs Γ N sc [] snx := ⟨tNext, fun X _ _ => pss_nil, fun G0 H0 ρ σ G H De r g E e q1 q2 => by cases e; exact q1 ρ G H σ rfl g (SL.refl _) E⟩
theorem ss_one {st : Stmt} {F : Env → Option Res} (h : DS Γ N sc st F) : DSs Γ N sc [st] F := let ⟨t, p, s⟩ := h.ex; ⟨t, fun X g f => pss_one (p X g f), s⟩
theorem ss_cons {st : Stmt} {rest : List Stmt} {F K : Env → Option Res} (h1 : DS Γ N sc st F) (h2 : DSs Γ N sc rest K) : DSs Γ N sc (st :: rest) (sseq F K) := by
  obtain ⟨t1, p1, s1⟩ := h1.ex
  obtain ⟨t2, p2, s2⟩ := h2.ex
  refine ⟨tSeq t1 t2, fun X g f => pss_cons (p1 X g f) (p2 X g f), fun G0 H0 ρ σ G H De r g E e q1 q2 => ?_⟩
  unfold sseq at e
  cases ef : F ρ with
  | none => rw [ef] at e; cases e
  | some r1 =>
    rw [ef] at e
    refine s1 G0 H0 ρ σ G H _ r1 g E ef (fun ρ' G' H' σ' er g' sl E' => ?_) fun d G' H' v er g' rr => ?_
    · subst er
      exact s2 G0 H0 ρ' σ' G' H' De r g' E' e (fun ρ2 G2 H2 σ2 e2 g2 sl2 E2 => q1 ρ2 G2 H2 σ2 e2 g2 (sl.trans sl2) E2) q2
    · subst er
      cases e
      exact q2 d G' H' v rfl g' rr
/-- from here on the i-th is shared -/
theorem ss_frz (i : Nat) {sts : List Stmt} {F : Env → Option Res} (h : DSs Γ N sc sts F) : DSs Γ N sc sts (sfrz i F) := by
  obtain ⟨t, p, s1⟩ := h.ex
  refine ⟨t, p, fun G0 H0 ρ σ G H De r g E e q1 q2 => ?_⟩
  unfold sfrz frzE at e
  cases ei : ρ[i]? with
  | none => rw [ei] at e; cases e
  | some sl =>
    rw [ei] at e
    cases sl with
    | no => cases e
    | sh d => exact s1 G0 H0 ρ σ G H De r g E e q1 q2
    | ow d =>
      obtain ⟨a, h1, h2, h3, h4⟩ := E.sl i _ ei
      obtain ⟨o, h5, h6⟩ := h4.shared h3
      have g' : Grow G0 H0 (upd G a o) H := g.share g.s h5 h3 h2
      exact s1 G0 H0 _ σ _ H De r g' (E.share ei h1 h5 h3 h6) e (fun ρ2 G2 H2 σ2 e2 g2 sl2 E2 => q1 ρ2 G2 H2 σ2 e2 g2 ((SL.new h3).trans sl2) E2) q2
/-- a value that is stored takes no swap of places -/
abbrev NoSw (e : Expr) (x : Str) (px : Pos) (l : Nat) : Prop := ∀ env : PySem.Env, swapsWith e (some (.Name x px)) l env = pure false
theorem sem_set {t : TE} {i : Nat} {a : Env → Option D} (sa : SemV Γ .e t a) : SemS Γ (tAsg t (gName i)) (sset i a) := fun G0 H0 ρ σ G H De r g E e q1 q2 => by
  unfold sset at e
  cases ea : a ρ with
  | none => rw [ea] at e; cases e
  | some d =>
    rw [ea] at e
    cases e
    exact sa H0 ρ σ G H _ d g.s E ea fun G1 H1 v g1 o1 => q1 _ G1 H1 _ rfl (g.trans g1) g1.g ((E.grow g1).setSh o1)
theorem sem_own {t : TE} {i : Nat} {a : Env → Option D} (sa : SemV Γ .f t a) : SemS Γ (tAsg t (gName i)) (sown i a) := fun G0 H0 ρ σ G H De r g E e q1 q2 => by
  unfold sown at e
  cases ea : a ρ with
  | none => rw [ea] at e; cases e
  | some d =>
    rw [ea] at e
    cases e
    refine sa H0 ρ σ G H _ d g.s E ea fun G1 H1 v g1 o1 => ?_
    obtain ⟨b, rfl, h1, h2, h3⟩ := o1
    refine q1 _ G1 H1 _ rfl (g.trans g1) g1.g ((E.grow g1).setOw (g.h.free h1) h2 h3 fun j f hj h4 h5 => ?_)
    obtain ⟨c, h6, _, _, h7⟩ := E.sl j _ h4
    rw [h5] at h6
    cases h6
    obtain ⟨o, h8, _⟩ := h7.there
    rw [h1] at h8; cases h8
theorem s_set {i : Nat} {x : Str} {px pos : Pos} {e : Expr} {a : Env → Option D} (nd : N.Nodup) (hN : N[i]? = some x) (hb : bndB sc true x = true) (he : DV Γ N sc .e e a) (hs : NoSw e x px pos.line := by exact fun _ => rfl) : DS Γ N sc (.Assign [.Name x px] e pos) (sset i a) := by
  obtain ⟨t, p, sa⟩ := he.ex
  have hb : locB sc x = true := hb
  exact ⟨_, fun X g f => ps_set (by rw [g.N]; exact nd) (by rw [g.N]; exact hN) (by rw [g.sc]; exact loc_of hb) (p X g) (hs _) (.inl (f x)), sem_set sa⟩
theorem s_own {i : Nat} {x : Str} {px pos : Pos} {e : Expr} {a : Env → Option D} (nd : N.Nodup) (hN : N[i]? = some x) (hb : bndB sc true x = true) (he : DV Γ N sc .f e a) (hs : NoSw e x px pos.line := by exact fun _ => rfl) : DS Γ N sc (.Assign [.Name x px] e pos) (sown i a) := by
  obtain ⟨t, p, sa⟩ := he.ex
  have hb : locB sc x = true := hb
  exact ⟨_, fun X g f => ps_set (by rw [g.N]; exact nd) (by rw [g.N]; exact hN) (by rw [g.sc]; exact loc_of hb) (p X g) (hs _) (.inl (f x)), sem_own sa⟩
/-- x = [..]: the comprehension -/
def swC (sc scope : Scope) (x : Str) (px pe : Pos) : Bool := (match sc.names.lookup x with | some .local => true | _ => false) && (px.line == pe.line) && !(scope.names.any fun (n, k) => n == x && (k == .local || k == .cell))
theorem sw_eq {X : Cx} {scope : Scope} {x : Str} {px pe : Pos} {l : Nat} {elt : Expr} {gs : List Comprehension} (h : X.env.scope.kind = .function) : swapsWith (.ListComp elt gs scope pe) (some (.Name x px)) l X.env = pure (swC X.env.scope scope x px pe) := by
  have hb : X.env.blockKind = .function := by unfold Env.blockKind; rw [h]; rfl
  unfold swapsWith swC
  simp only [hb, Expr.pos]
  have hk : X.env.kindOf x = X.env.scope.names.lookup x := rfl
  rw [hk]
  cases X.env.scope.names.lookup x with
  | none => rfl
  | some k => cases k <;> rfl
theorem lc_ps {i : Nat} {x : Str} {px pos pe : Pos} {elt : Expr} {gs : List Comprehension} {scope : Scope} {t : TE} {X : Cx} (g : Good Γ N sc X) (f : ∀ x, X.fn x = true) (nd : N.Nodup) (hk : sc.kind = .function) (hN : N[i]? = some x) (hb : bndB sc true x = true)
    (p : PE X (.ListComp elt gs scope pe) t ∧ ∀ (i : Nat) (y : Str) (py : Pos) (spos : Pos), N[i]? = some y → X.env.scope.names.lookup y = some .local → swapsWith (.ListComp elt gs scope pe) (some (.Name y py)) spos.line X.env = pure true → PS X (.Assign [.Name y py] (.ListComp elt gs scope pe) spos) (tAsg t (gName i))) :
    PS X (.Assign [.Name x px] (.ListComp elt gs scope pe) pos) (tAsg t (gName i)) := by
  have hb : locB sc x = true := hb
  have e := sw_eq (X := X) (scope := scope) (x := x) (px := px) (pe := pe) (l := pos.line) (elt := elt) (gs := gs) (by rw [g.sc]; exact hk)
  cases hc : swC X.env.scope scope x px pe with
  | true =>
    rw [hc] at e
    refine p.2 i x px pos hN ?_ e
    unfold swC at hc
    simp only [Bool.and_eq_true] at hc
    have := hc.1.1
    split at this
    · assumption
    · cases this
  | false =>
    rw [hc] at e
    exact ps_set (by rw [g.N]; exact nd) (by rw [g.N]; exact hN) (by rw [g.sc]; exact loc_of hb) p.1 e (.inl (f x))
theorem s_setL {i : Nat} {x : Str} {px pos pe : Pos} {elt : Expr} {gs : List Comprehension} {scope : Scope} {a : Env → Option D} (nd : N.Nodup) (hk : sc.kind = .function) (hN : N[i]? = some x) (hb : bndB sc true x = true) (he : DL Γ N sc (.ListComp elt gs scope pe) a) :
    DS Γ N sc (.Assign [.Name x px] (.ListComp elt gs scope pe) pos) (sset i a) := by
  obtain ⟨t, p, sa⟩ := he.ex
  exact ⟨_, fun X g f => lc_ps g f nd hk hN hb (p X g), sem_set sa.toE⟩
theorem s_ownL {i : Nat} {x : Str} {px pos pe : Pos} {elt : Expr} {gs : List Comprehension} {scope : Scope} {a : Env → Option D} (nd : N.Nodup) (hk : sc.kind = .function) (hN : N[i]? = some x) (hb : bndB sc true x = true) (he : DL Γ N sc (.ListComp elt gs scope pe) a) :
    DS Γ N sc (.Assign [.Name x px] (.ListComp elt gs scope pe) pos) (sown i a) := by
  obtain ⟨t, p, sa⟩ := he.ex
  exact ⟨_, fun X g f => lc_ps g f nd hk hN hb (p X g), sem_own sa⟩
/-- a, b, .. = a tuple -/
theorem s_bind {tg e : Expr} {pos : Pos} {p : Pat} {a : Env → Option D} (he : DV Γ N sc .e e a) (hg : DG Γ N sc true tg p) (hs : ∀ env : PySem.Env, swapsWithSole [tg] e pos.line env = pure false := by exact fun _ => rfl) (hw : ∀ env : PySem.Env, swappedStores [tg] e env = pure none := by exact fun _ => rfl)
    (h1 : ∀ env : PySem.Env, (assignEach [tg] env).map (·.2) = [assign tg env] := by exact fun _ => rfl) : DS Γ N sc (.Assign [tg] e pos) (sbind p a) := by
  obtain ⟨t, pe, sa⟩ := he.ex
  obtain ⟨g, pg, sg⟩ := hg.ex
  refine ⟨_, fun X gX f => ps_asg (pe X gX) (pg X gX fun _ => f) (hs _) (hw _) (h1 _), fun G0 H0 ρ σ G H De r gr E e q1 q2 => ?_⟩
  unfold sbind at e
  cases ea : a ρ with
  | none => rw [ea] at e; cases e
  | some d =>
    simp only [ea, Option.bind_some] at e
    cases eb : bindP p d ρ with
    | none => rw [eb] at e; cases e
    | some ρ' =>
      rw [eb] at e
      cases e
      refine sa H0 ρ σ G H _ d gr.s E ea fun G1 H1 v g1 o1 => ?_
      exact sg H0 ρ ρ' σ G1 H1 v d _ g1.s (E.grow g1) eb o1 fun vs E' => q1 ρ' G1 H1 _ rfl (gr.trans g1) g1.g E'
/-- a, b = x, y -/
theorem s_par {i j : Nat} {x y : Str} {ea eb : Expr} {px py pt pos : Pos} {kt k2 : Nat} {pt2 : Pos} {a b : Env → Option D} (nd : N.Nodup) (hi : N[i]? = some x) (hj : N[j]? = some y) (hij : i ≠ j) (hx : lclB sc x = true) (hy : lclB sc y = true) (ha : DV Γ N sc .e ea a) (hb : DV Γ N sc .e eb b)
    (hw : ∀ env : PySem.Env, env.scope = sc → swappedStores [.Tuple [.Name x px, .Name y py] kt pt] (.Tuple [ea, eb] k2 pt2) env = pure (some [x, y]))
    (h1 : Pl1 ea [eb] := by exact fun _ => rfl) (h2 : Pl1 eb [] := by exact fun _ => rfl)
    (hs : ∀ env : PySem.Env, swapsWithSole [.Tuple [.Name x px, .Name y py] kt pt] (.Tuple [ea, eb] k2 pt2) pos.line env = pure false := by exact fun _ => rfl) :
    DS Γ N sc (.Assign [.Tuple [.Name x px, .Name y py] kt pt] (.Tuple [ea, eb] k2 pt2) pos) (spar i j a b) := by
  obtain ⟨ta, pa, sa⟩ := ha.ex
  obtain ⟨tb, pb, sb⟩ := hb.ex
  refine ⟨_, fun X g f => ps_par g.calm (by rw [g.N]; exact nd) (by rw [g.N]; exact hi) (by rw [g.N]; exact hj) hij (by rw [g.sc]; exact lcl_of hx) (by rw [g.sc]; exact lcl_of hy) (pa_cons (pa X g) (pa_cons (pb X g) pa_nil (h2 _)) (h1 _)) (hw _ g.sc) (hs _), fun G0 H0 ρ σ G H De r g E e q1 q2 => ?_⟩
  unfold spar at e
  cases ea : a ρ with
  | none => rw [ea] at e; cases e
  | some d1 =>
    cases eb : b ρ with
    | none => simp only [ea, eb, Option.bind_some] at e; cases e
    | some d2 =>
      simp only [ea, eb, Option.bind_some] at e
      cases e
      refine sa H0 ρ σ G H _ d1 g.s E ea fun G1 H1 v g1 o1 => ?_
      refine sb H0 ρ σ G1 H1 _ d2 g1.s (E.grow g1) eb fun G2 H2 w g2 o2 => ?_
      have g12 := g1.trans g2
      exact ⟨v, w, rfl, q1 _ G2 H2 _ rfl (g.trans g12) g12.g (((E.grow g12).setSh (Rep.mono g2.g o1)).setSh o2)⟩
theorem s_if {c : Expr} {a b : List Stmt} {pos : Pos} {fc : Env → Option Bool} {fa fb : Env → Option Res} (hc : DT Γ N sc c fc) (ha : DSs Γ N sc a fa) (hb : DSs Γ N sc b fb) : DS Γ N sc (.If c a b pos) (sif fc fa fb) := by
  obtain ⟨tc, pc, sc1⟩ := hc.ex
  obtain ⟨ta, pa, sa⟩ := ha.ex
  obtain ⟨tb, pb, sb⟩ := hb.ex
  refine ⟨_, fun X g f => ps_if (pc X g) (pa X g f) (pb X g f), fun G0 H0 ρ σ G H De r g E e q1 q2 => ?_⟩
  unfold sif at e
  cases ec : fc ρ with
  | none => rw [ec] at e; cases e
  | some k =>
    rw [ec] at e
    refine sc1 H0 ρ σ G H _ k g.s E ec fun G1 H1 g1 => ?_
    cases k with
    | true => rw [if_pos rfl]; exact sa G0 H0 ρ σ G1 H1 De r (g.trans g1) (E.grow g1) e (fun ρ2 G2 H2 σ2 e2 g2 sl2 E2 => q1 ρ2 G2 H2 σ2 e2 g2 (g1.g.trans sl2) E2) q2
    | false => rw [if_neg Bool.false_ne_true]; exact sb G0 H0 ρ σ G1 H1 De r (g.trans g1) (E.grow g1) e (fun ρ2 G2 H2 σ2 e2 g2 sl2 E2 => q1 ρ2 G2 H2 σ2 e2 g2 (g1.g.trans sl2) E2) q2
theorem s_ret {e : Expr} {pos : Pos} {a : Env → Option D} (he : DV Γ N sc .e e a) : DS Γ N sc (.Return (some e) pos) (sret a) := by
  obtain ⟨t, p, sa⟩ := he.ex
  refine ⟨_, fun X g f => ps_ret (p X g), fun G0 H0 ρ σ G H De r g E e q1 q2 => ?_⟩
  unfold sret at e
  cases ea : a ρ with
  | none => rw [ea] at e; cases e
  | some d =>
    rw [ea] at e
    cases e
    exact sa H0 ρ σ G H _ d g.s E ea fun G1 H1 v g1 o1 => q2 d G1 H1 v rfl (g.trans g1) o1
theorem s_drop {e : Expr} {pos : Pos} {a : Env → Option D} (he : DV Γ N sc κ e a) (hs : ∀ env : PySem.Env, swapsWith e none pos.line env = pure false := by exact fun _ => rfl) : DS Γ N sc (.Expr e pos) (sdrop a) := by
  obtain ⟨t, p, sa⟩ := he.ex
  refine ⟨_, fun X g f => ps_expr (p X g) (hs _), fun G0 H0 ρ σ G H De r g E e q1 q2 => ?_⟩
  unfold sdrop at e
  cases ea : a ρ with
  | none => rw [ea] at e; cases e
  | some d =>
    rw [ea] at e
    cases e
    exact sa H0 ρ σ G H _ d g.s E ea fun G1 H1 v g1 o1 => q1 ρ G1 H1 σ rfl (g.trans g1) g1.g (E.grow g1)
theorem s_for {tg it : Expr} {body : List Stmt} {pos : Pos} {I : Env → Option (List D)} {p : Pat} {b : Env → Option Res} (hi : DI Γ N sc tg it I) (hg : DG Γ N sc true tg p) (hb : DSs Γ N sc body b) (hs : ∀ (env : PySem.Env) x, foldedSetIterable it env x = pure x := by exact fun _ _ => rfl) :
    DS Γ N sc (.For tg it body [] pos) (sfor I p b) := by
  obtain ⟨wi, pi, si⟩ := hi.ex
  obtain ⟨gt, pg, sg⟩ := hg.ex
  obtain ⟨tb, pb, sb⟩ := hb.ex
  refine ⟨_, fun X g f => ps_for (by rw [g.xe]; exact PassesOwn.never) g.calm (pi X g) (pg X g fun _ => f) (pb X g f) (hs _), fun G0 H0 ρ σ G H De r g E e q1 q2 => ?_⟩
  unfold sfor at e
  cases ei : I ρ with
  | none => rw [ei] at e; cases e
  | some items =>
    rw [ei] at e
    have e : forD p b items ρ = some r := e
    refine si H0 ρ σ G H _ items g.s E ei fun J Gp Y G1 H1 g1 wk hGp hY => ?_
    refine for_it wk (fun i σ' H' => ∃ G' ρ', Grow G0 H0 G' H' ∧ SL G1 G' ∧ EnvOk Γ H0 G' H' ρ' σ' ∧ forD p b (items.drop i) ρ' = some r) ⟨G1, ρ, g.trans g1, SL.refl _, E.grow g1, by rw [List.drop_zero]; exact e⟩ (fun i σ' H' _ h => ?_) (fun i x σ2 H2 H3 hlt h y => ?_) fun σ' H' h => ?_
    · obtain ⟨G', ρ', g2, s1, _⟩ := h
      exact hGp G' H' s1 g2.s
    · obtain ⟨G2, ρ2, g2, s2, E2, h2⟩ := h
      obtain ⟨G3, d, hd, g3, r3⟩ := hY i H2 x H3 G2 hlt s2 g2.s y
      have hdrop : items.drop i = d :: items.drop (i + 1) := by
        obtain ⟨hl, e1⟩ := List.getElem?_eq_some_iff.mp hd
        rw [List.drop_eq_getElem_cons hl, e1]
      rw [hdrop] at h2
      have h2 : ((bindP p d ρ2).bind fun ρ1 => (b ρ1).bind fun r => match r with
        | .nx ρ' => forD p b (items.drop (i + 1)) ρ'
        | .rt d => some (.rt d)) = some r := h2
      cases eb : bindP p d ρ2 with
      | none => rw [eb] at h2; cases h2
      | some ρ3 =>
        simp only [eb, Option.bind_some] at h2
        cases er : b ρ3 with
        | none => rw [er] at h2; cases h2
        | some r3' =>
          simp only [er, Option.bind_some] at h2
          refine sg H0 ρ2 ρ3 σ2 G3 H3 x d _ g3.s (E2.grow g3) eb r3 fun vs E3 => ?_
          refine sb G0 H0 ρ3 _ G3 H3 _ r3' (g2.trans g3) E3 er (fun ρ4 G4 H4 σ4 e4 g4 s4 E4 => ?_) fun d' G4 H4 v4 e4 g4 r4 => ?_
          · subst e4
            exact ⟨G4, ρ4, g4, (s2.trans g3.g).trans s4, E4, h2⟩
          · subst e4
            cases h2
            exact q2 d' G4 H4 v4 rfl g4 r4
    · obtain ⟨G2, ρ2, g2, s2, E2, h2⟩ := h
      rw [List.drop_length] at h2
      cases h2
      exact q1 ρ2 G2 H' σ' rfl g2 (g1.g.trans s2) E2
theorem s_while {c : Expr} {body : List Stmt} {pos : Pos} {fc : Env → Option Bool} {b : Env → Option Res} (hc : DT Γ N sc c fc) (hb : DSs Γ N sc body b) : DS Γ N sc (.While c body [] pos) (swhile fc b) := by
  obtain ⟨tc, pc, sc1⟩ := hc.ex
  obtain ⟨tb, pb, sb⟩ := hb.ex
  refine ⟨_, fun X g f => ps_while (by rw [g.xe]; exact PassesOwn.never) (pc X g) (pb X g f), fun G0 H0 ρ σ G H De r g E e q1 q2 => ?_⟩
  have e : whileD fc b fuel ρ = some r := e
  refine ⟨fun n σ' H' => ∃ G' ρ', Grow G0 H0 G' H' ∧ SL G G' ∧ EnvOk Γ H0 G' H' ρ' σ' ∧ whileD fc b n ρ' = some r, ⟨fuel, G, ρ, g, SL.refl _, E, e⟩, fun n σ1 H1 h => ?_⟩
  obtain ⟨G1, ρ1, g1, s1, E1, h1⟩ := h
  cases n with
  | zero => cases h1
  | succ n =>
    have h1 : ((fc ρ1).bind fun k => if k then (b ρ1).bind fun r => match r with
      | .nx ρ' => whileD fc b n ρ'
      | .rt d => some (.rt d)
      else some (.nx ρ1)) = some r := h1
    cases ec : fc ρ1 with
    | none => rw [ec] at h1; cases h1
    | some k =>
      simp only [ec, Option.bind_some] at h1
      refine sc1 H0 ρ1 σ1 G1 H1 _ k g1.s E1 ec fun G2 H2 g2 => ?_
      cases k with
      | true =>
        rw [if_pos rfl]
        rw [if_pos rfl] at h1
        cases eb : b ρ1 with
        | none => rw [eb] at h1; cases h1
        | some rb =>
          simp only [eb, Option.bind_some] at h1
          refine ⟨_, fun σ' H' hN => ⟨n, Nat.lt_succ_self n, hN⟩, ?_⟩
          refine sb G0 H0 ρ1 σ1 G2 H2 _ rb (g1.trans g2) (E1.grow g2) eb (fun ρ4 G4 H4 σ4 e4 g4 s4 E4 => ?_) fun d' G4 H4 v4 e4 g4 r4 => ?_
          · subst e4
            exact ⟨G4, ρ4, g4, (s1.trans g2.g).trans s4, E4, h1⟩
          · subst e4
            cases h1
            exact q2 d' G4 H4 v4 rfl g4 r4
      | false =>
        rw [if_neg Bool.false_ne_true]
        rw [if_neg Bool.false_ne_true] at h1
        cases h1
        exact q1 ρ1 G2 H2 σ1 rfl (g1.trans g2) (s1.trans g2.g) (E1.grow g2)
/-- x.append(e) -/
theorem Own.upd_lst {H0 : Hp} {ρ : Env} {σ : L2.St} {i : Nat} {ds es : List D} {vs : List V} {a : Addr} (E : EnvOk Γ H0 G H ρ σ) (hi : ρ[i]? = some (.ow (.lst ds))) (hσ : σ[i]? = some (some (.ref a))) (h0 : H0 a = none) (g : G a = none) (r : RepL Γ.K Γ.C G vs es) :
    EnvOk Γ H0 G (L2.upd H a (.lst vs)) (ρ.set i (.ow (.lst es))) σ := E.upd hi hσ h0 g ⟨vs, upd_same, r⟩
theorem s_app {i : Nat} {x : Str} {px apos cpos pos : Pos} {e : Expr} {a : Env → Option D} (hN : N[i]? = some x) (hv : visB sc x = true) (hd : (x == ("__debug__" : Str)) = false) (hcd : (x == ("__classdict__" : Str)) = false) (ha : DV Γ N sc .e e a)
    (hbase : ∀ env : PySem.Env, attributeBase (.Name x px) "append" env (eval (.Name x px) env) = eval (.Name x px) env := by exact fun _ => rfl)
    (hfew : ∀ env : PySem.Env, ((backTo cpos (starEach [e] env)).all (fun x => !x.1) && (backToKw cpos (keywordEach [] env)).all (fun x => x.1.isSome)
      && decide (([e] : List Expr).length + ([] : List Keyword).length + (if ([] : List Keyword).isEmpty then 0 else 1) < 30)) = true := by exact fun _ => rfl)
    (hline : (apos.endLine == cpos.line) = true := by rfl) (hs : Pl1 e [] := by exact fun _ => rfl) :
    DS Γ N sc (.Expr (.Call (.Attribute (.Name x px) "append" apos) [e] [] cpos) pos) (sapp i a) := by
  obtain ⟨t, p, sa⟩ := ha.ex
  refine ⟨tDrop (tBM Γ.K "list" rAppend (tVar i) (tCons t tNil)), fun X g f => g.K ▸ ps_expr (pe_bm F.plainAttrs_list F.slot_list_append F.type_list_append mt_append (pe_var (by rw [g.N]; exact hN) (by rw [g.sc]; exact vis_of hv) hd hcd) (pa_cons (p X g) pa_nil (hs _)) (hbase _) (hfew _) hline (hs _) rfl) rfl, fun G0 H0 ρ σ G H De r g E e q1 q2 => ?_⟩
  unfold sapp at e
  cases ea : a ρ with
  | none => rw [ea] at e; cases e
  | some d =>
    simp only [ea, Option.bind_some] at e
    split at e
    · rename_i ds hi
      split at e
      · rename_i hl
        cases e
        obtain ⟨b, h1, h2, h3, vs, h4, h5⟩ := E.sl i _ hi
        refine ⟨.ref b, h1, .inl ⟨rfl, vs, SqL.of h4⟩, sa H0 ρ σ G H _ d g.s E ea fun G1 H1 v g1 o1 => ?_⟩
        have h4' : H1 b = some (.lst vs) := g1.x _ _ h3 h4
        have h3' : G1 b = none := g1.keep h4 h3
        have g01 := g.trans g1
        refine ⟨b, vs, v, rfl, rfl, h4', by rw [h5.length]; exact big_lt hl, ?_⟩
        exact q1 _ G1 _ σ rfl (g01.updH h3' h2) g1.g (Own.upd_lst (E.grow g1) hi h1 h2 h3' ((h5.mono g1.g).app (.cons o1 .nil)))
      · cases e
    · cases e
theorem s_ext {i : Nat} {x : Str} {px apos cpos pos : Pos} {e : Expr} {a : Env → Option D} (hN : N[i]? = some x) (hv : visB sc x = true) (hd : (x == ("__debug__" : Str)) = false) (hcd : (x == ("__classdict__" : Str)) = false) (ha : DV Γ N sc .e e a)
    (hbase : ∀ env : PySem.Env, attributeBase (.Name x px) "extend" env (eval (.Name x px) env) = eval (.Name x px) env := by exact fun _ => rfl)
    (hfew : ∀ env : PySem.Env, ((backTo cpos (starEach [e] env)).all (fun x => !x.1) && (backToKw cpos (keywordEach [] env)).all (fun x => x.1.isSome)
      && decide (([e] : List Expr).length + ([] : List Keyword).length + (if ([] : List Keyword).isEmpty then 0 else 1) < 30)) = true := by exact fun _ => rfl)
    (hline : (apos.endLine == cpos.line) = true := by rfl) (hs : Pl1 e [] := by exact fun _ => rfl) :
    DS Γ N sc (.Expr (.Call (.Attribute (.Name x px) "extend" apos) [e] [] cpos) pos) (sext i a) := by
  obtain ⟨t, p, sa⟩ := ha.ex
  refine ⟨tDrop (tBM Γ.K "list" rExtend (tVar i) (tCons t tNil)), fun X g f => g.K ▸ ps_expr (pe_bm F.plainAttrs_list F.slot_list_extend F.type_list_extend mt_extend (pe_var (by rw [g.N]; exact hN) (by rw [g.sc]; exact vis_of hv) hd hcd) (pa_cons (p X g) pa_nil (hs _)) (hbase _) (hfew _) hline (hs _) rfl) rfl, fun G0 H0 ρ σ G H De r g E e q1 q2 => ?_⟩
  unfold sext at e
  cases ea : a ρ with
  | none => rw [ea] at e; cases e
  | some d =>
    simp only [ea, Option.bind_some] at e
    split at e
    · rename_i ds es hi
      split at e
      · rename_i hl
        cases e
        obtain ⟨b, h1, h2, h3, vs, h4, h5⟩ := E.sl i _ hi
        refine ⟨.ref b, h1, .inl ⟨rfl, vs, SqL.of h4⟩, sa H0 ρ σ G H _ _ g.s E ea fun G1 H1 v g1 o1 => ?_⟩
        have o1 : Rep Γ.K Γ.C G1 v (.lst es) := o1
        cases o1 with
        | lst h6 h7 =>
          have h4' : H1 b = some (.lst vs) := g1.x _ _ h3 h4
          have h3' : G1 b = none := g1.keep h4 h3
          have g01 := g.trans g1
          refine ⟨b, _, vs, _, rfl, rfl, h4', g1.s.lst h6, by rw [h5.length, h7.length]; exact Nat.le_of_lt (big_lt hl), ?_⟩
          exact q1 _ G1 _ σ rfl (g01.updH h3' h2) g1.g (Own.upd_lst (E.grow g1) hi h1 h2 h3' ((h5.mono g1.g).app h7))
      · cases e
    · cases e
/-- x[k] = e: a list's place, a dict's key -/
theorem PS.or {X : Cx} {st : Stmt} {t t' : TS} (h : PS X st t) (h' : PS X st t') : PS X st (fun De σ H => t De σ H ∨ t' De σ H) :=
  ⟨fun pins s σ H De I q => q.elim (h.run pins s σ H De I) (h'.run pins s σ H De I)⟩
theorem putK_map {kvs : List (List Key × V)} {kds : List (List Int × D)} {ns : List Int} {v : V} {d : D} (e : kvs.map Prod.fst = kds.map fun p => kk p.1) (r : RepL Γ.K Γ.C G (kvs.map Prod.snd) (kds.map Prod.snd)) (rv : Rep Γ.K Γ.C G v d) :
    (putK kvs (kk ns) v).map Prod.fst = (putD kds ns d).map (fun p => kk p.1) ∧ RepL Γ.K Γ.C G ((putK kvs (kk ns) v).map Prod.snd) ((putD kds ns d).map Prod.snd) := by
  have hany : ∀ {kvs : List (List Key × V)} {kds : List (List Int × D)}, kvs.map Prod.fst = kds.map (fun p => kk p.1) → kvs.any (fun p => decide (p.1 = kk ns)) = kds.any fun p => decide (p.1 = ns) := by
    intro kvs
    induction kvs with
    | nil => intro kds e; cases kds with
      | nil => rfl
      | cons _ _ => cases e
    | cons p kvs ih =>
      intro kds e
      cases kds with
      | nil => cases e
      | cons q kds =>
        have e1 : p.1 = kk q.1 := (List.cons.inj e).1
        rw [List.any_cons, List.any_cons, ih (List.cons.inj e).2]
        have : decide (p.1 = kk ns) = decide (q.1 = ns) := by
          rw [e1]
          by_cases h : q.1 = ns
          · rw [h, decide_eq_true rfl, decide_eq_true rfl]
          · rw [decide_eq_false h, decide_eq_false fun z => h (kk_inj _ _ z)]
        rw [this]
  unfold putK putD
  rw [hany e]
  by_cases hc : (kds.any fun p => decide (p.1 = ns)) = true
  · rw [if_pos hc, if_pos hc]
    have go : ∀ {kvs : List (List Key × V)} {kds : List (List Int × D)}, kvs.map Prod.fst = kds.map (fun p => kk p.1) → RepL Γ.K Γ.C G (kvs.map Prod.snd) (kds.map Prod.snd) →
        (kvs.map fun kv => if kv.1 = kk ns then (kv.1, v) else kv).map Prod.fst = (kds.map fun p => if p.1 = ns then (ns, d) else p).map (fun p => kk p.1) ∧ RepL Γ.K Γ.C G ((kvs.map fun kv => if kv.1 = kk ns then (kv.1, v) else kv).map Prod.snd) ((kds.map fun p => if p.1 = ns then (ns, d) else p).map Prod.snd) := by
      intro kvs
      induction kvs with
      | nil => intro kds e r; cases kds with
        | nil => exact ⟨rfl, .nil⟩
        | cons _ _ => cases e
      | cons p kvs ih =>
        intro kds e r
        cases kds with
        | nil => cases e
        | cons q kds =>
          have e1 : p.1 = kk q.1 := (List.cons.inj e).1
          cases r with
          | cons r1 r2 =>
            obtain ⟨i1, i2⟩ := ih (List.cons.inj e).2 r2
            by_cases h : q.1 = ns
            · have h' : p.1 = kk ns := by rw [e1, h]
              simp only [List.map_cons, if_pos h, if_pos h']
              exact ⟨by rw [h', i1], .cons rv i2⟩
            · have h' : ¬ p.1 = kk ns := fun z => h (kk_inj _ _ (e1.symm.trans z))
              simp only [List.map_cons, if_neg h, if_neg h']
              refine ⟨?_, .cons r1 i2⟩
              rw [e1]
              exact congrArg _ i1
    exact go e r
  · rw [if_neg hc, if_neg hc, List.map_append, List.map_append, List.map_append, List.map_append, e]
    exact ⟨rfl, r.app (.cons rv .nil)⟩
theorem s_put {i : Nat} {x : Str} {px sp pos : Pos} {ek e : Expr} {k a : Env → Option D} (hN : N[i]? = some x) (hv : visB sc x = true) (hd : (x == ("__debug__" : Str)) = false) (hcd : (x == ("__classdict__" : Str)) = false) (hk : DV Γ N sc .e ek k) (ha : DV Γ N sc .e e a)
    (hs1 : ∀ env : PySem.Env, swapsWith e (some (.Subscript (.Name x px) ek sp)) pos.line env = pure false := by exact fun _ => rfl)
    (hs : ∀ env : PySem.Env, swapsWithSole [.Subscript (.Name x px) ek sp] e pos.line env = pure false := by exact fun _ => rfl) (hw : ∀ env : PySem.Env, swappedStores [.Subscript (.Name x px) ek sp] e env = pure none := by exact fun _ => rfl)
    (h1 : ∀ env : PySem.Env, (assignEach [.Subscript (.Name x px) ek sp] env).map (·.2) = [assign (.Subscript (.Name x px) ek sp) env] := by exact fun _ => rfl)
    (h2 : ∀ (env : PySem.Env) v, assign (.Subscript (.Name x px) ek sp) env v = (do
      let ov ← holding [v] (eval (.Name x px) env)
      let iv ← holding [v, ov] (eval ek env)
      standAt sp
      holding [v, ov, iv] (setItem ov iv v)
      release [v, ov, iv] []) := by exact fun _ _ => rfl) :
    DS Γ N sc (.Assign [.Subscript (.Name x px) ek sp] e pos) (sput i k a) := by
  obtain ⟨tk, pk, sk⟩ := hk.ex
  obtain ⟨ta, pa, sa⟩ := ha.ex
  refine ⟨fun De σ H => tAsg ta (gSub (tVar i) tk rSetL) De σ H ∨ sDPut (tVar i) tk ta De σ H, fun X g f => ?_, fun G0 H0 ρ σ G H De r g E e q1 q2 => ?_⟩
  · have pv : PE X (.Name x px) (tVar i) := pe_var (by rw [g.N]; exact hN) (by rw [g.sc]; exact vis_of hv) hd hcd
    exact PS.or (ps_asg (pa X g) (pg_sub pv (pk X g) set_list (h2 _)) (hs _) (hw _) (h1 _)) (ps_dput (hu_of g.room) pv (pk X g) (pa X g) (hs1 _))
  · unfold sput at e
    cases ea : a ρ with
    | none => rw [ea] at e; cases e
    | some d =>
      cases ek' : k ρ with
      | none => simp only [ea, ek', Option.bind_some] at e; cases e
      | some kd =>
        simp only [ea, ek', Option.bind_some] at e
        split at e
        · rename_i ds n hi
          cases ej : ixN ds.length n with
          | none => rw [ej] at e; cases e
          | some j =>
            rw [ej] at e
            cases e
            obtain ⟨b, h1, h2, h3, vs, h4, h5⟩ := E.sl i _ hi
            refine .inl (sa H0 ρ σ G H _ d g.s E ea fun G1 H1 v g1 o1 => ⟨.ref b, h1, sk H0 ρ σ G1 H1 _ _ g1.s (E.grow g1) ek' fun G2 H2 w g2 o2 => ?_⟩)
            have o2 : Rep Γ.K Γ.C G2 w (.int n) := o2
            cases o2
            have g12 := g1.trans g2
            have h4' : H2 b = some (.lst vs) := g12.x _ _ h3 h4
            have h3' : G2 b = none := g12.keep h4 h3
            refine ⟨b, vs, n, j, rfl, rfl, h4', by rw [h5.length]; exact ej, ?_⟩
            exact q1 _ G2 _ σ rfl ((g.trans g12).updH h3' h2) g12.g (Own.upd_lst (E.grow g12) hi h1 h2 h3' (RepL.set (Rep.mono g2.g o1) j (h5.mono g12.g)))
        · rename_i kds ks hi
          cases en : asInts ks with
          | none => rw [en] at e; cases e
          | some ns =>
            simp only [en, Option.bind_some] at e
            split at e
            · rename_i hl
              cases e
              obtain ⟨b, h1, h2, h3, kvs, h4, h5, h6⟩ := E.sl i _ hi
              refine .inr (sa H0 ρ σ G H _ d g.s E ea fun G1 H1 v g1 o1 => ⟨.ref b, h1, sk H0 ρ σ G1 H1 _ _ g1.s (E.grow g1) ek' fun G2 H2 w g2 o2 => ?_⟩)
              have o2 : Rep Γ.K Γ.C G2 w (.tup ks) := o2
              cases o2 with
              | tup h7 h8 =>
                rw [asInts_eq en] at h8
                have e8 := kk_tup h8
                subst e8
                have g12 := g1.trans g2
                have h4' : H2 b = some (.dT kvs) := g12.x _ _ h3 h4
                have h3' : G2 b = none := by
                  by_cases q : G2 b = none
                  · exact q
                  · rcases g12.n b h3 q with e | ⟨ws, e⟩
                    · rw [h4] at e; cases e
                    · rw [h4] at e; cases e
                have hlen : kvs.length = kds.length := by
                  have := congrArg List.length h5
                  simpa using this
                obtain ⟨m1, m2⟩ := putK_map (ns := ns) h5 (h6.mono g12.g) (Rep.mono g2.g o1)
                refine ⟨b, _, rfl, .inr ⟨kvs, kk ns, _, h4', rfl, g2.s.tup h7, by rw [hlen]; exact big_lt hl, rfl⟩, ?_⟩
                exact q1 _ G2 _ σ rfl ((g.trans g12).updH h3' h2) g12.g ((E.grow g12).upd hi h1 h2 h3' ⟨_, upd_same, m1, m2⟩)
            · cases e
        · cases e
/-- {} whose keys are tuples -/
theorem d_dnew {pos : Pos} : DV Γ N sc .f (.Dict [] [] pos) (kc (.dct [])) := by
  refine ⟨tDNewT, fun X g => pe_dnewT, fun H0 ρ σ G H Q d s E e q => ?_⟩
  cases e
  exact fun p hp => q _ _ _ (Grow.newH s hp) ⟨p, rfl, hp, s.free hp, [], upd_same, rfl, .nil⟩
/-! ### a def -/
def startE (N : List Str) (ds : List D) : Env := ds.map Sl.sh ++ List.replicate (N.length - ds.length) Sl.no
def callD (N : List Str) (n : Nat) (F : Env → Option Res) (ds : List D) : Option D := if ds.length = n then (match F (startE N ds) with
  | some (.rt d) => some d
  | some (.nx _) => some .non
  | none => none) else none
theorem env_start {H0 : Hp} {vs : List V} {ds : List D} (N : List Str) (r : RepL Γ.K Γ.C G vs ds) : EnvOk Γ H0 G H (startE N ds) (L2.start N vs) := by
  have hl := r.length
  unfold startE L2.start
  refine ⟨by simp [hl], fun i s h => ?_, fun i j d e a hij h1 h2 _ => ?_⟩
  · by_cases hi : i < ds.length
    · rw [List.getElem?_append_left (by simpa using hi), List.getElem?_map] at h
      rw [List.getElem?_append_left (by simp; omega), List.getElem?_map]
      obtain ⟨d, hd⟩ : ∃ d, ds[i]? = some d := ⟨ds[i], List.getElem?_eq_getElem hi⟩
      rw [hd] at h
      cases h
      obtain ⟨v, hv, rv⟩ := r.get hd
      exact ⟨v, by rw [hv]; rfl, rv⟩
    · rw [List.getElem?_append_right (by simp; omega), List.getElem?_replicate] at h
      split at h
      · cases h; trivial
      · cases h
  · have no : ∀ k f, (ds.map Sl.sh ++ List.replicate (N.length - ds.length) Sl.no)[k]? ≠ some (Sl.ow f) := fun k f h => by
      by_cases hk : k < ds.length
      · rw [List.getElem?_append_left (by simpa using hk), List.getElem?_map, List.getElem?_eq_getElem hk] at h
        cases h
      · rw [List.getElem?_append_right (by simp; omega), List.getElem?_replicate] at h
        split at h <;> cases h
    exact absurd h1 (no i d)
theorem fnD {x qual : Str} {st : Stmt} {f : Addr} {fd : FuncData} {ps : List Str} {k : Nat} {F : Env → Option Res} (Fn : Fun Γ.K x qual st f fd) (S : FnScope N ps (defScope st)) (h : DSs (Γ.at k) N (defScope st) (defBody st) F) : FnOk Γ.P Γ.w Γ.K Γ.mg Γ.base CX0 (k + 1) f fd ps (spD Γ.K Γ.C (callD N ps.length F)) := by
  refine Fn.ok S (fun vs H Q E h => ?_) (fun cdv A outer s H vs Q E hr hsp => ?_)
  · obtain ⟨G, ds, d, _, r, e, _⟩ := h
    unfold callD at e
    split at e
    · rename_i hl; rw [r.length]; exact hl
    · cases e
  · obtain ⟨G, ds, d, s1, r, e, q⟩ := hsp
    obtain ⟨t, p, sm⟩ := h.ex
    refine ⟨t, p _ ⟨rfl, rfl, rfl, rfl, rfl, rfl, rfl, hr, rfl, rfl⟩ (fun _ => rfl), ?_⟩
    unfold callD at e
    split at e
    · split at e
      · rename_i d' eF
        cases e
        exact sm G H (startE N ds) (L2.start N vs) G H _ _ (Grow.refl s1) (env_start N r) eF (fun ρ' G' H' σ' er => by cases er) fun d2 G' H' v er g' rr => by cases er; exact q G' H' v g' rr
      · rename_i ρ' eF
        cases e
        exact sm G H (startE N ds) (L2.start N vs) G H _ _ (Grow.refl s1) (env_start N r) eF (fun ρ2 G' H' σ' er g' _ _ => q G' H' .non g' .non) fun d2 G' H' v er => by cases er
      · cases e
    · cases e
theorem hasD {x qual : Str} {st : Stmt} {f : Addr} {fd : FuncData} {ps : List Str} {k : Nat} {F : Env → Option Res} (Fn : Fun Γ.K x qual st f fd) (hm : Γ.mg x = some (.ref f)) (hb : Binds Γ.K fd ps []) (S : FnScope N ps (defScope st)) (h : DSs (Γ.at k) N (defScope st) (defBody st) F) : HasD (Γ.at (k + 1)) x (callD N ps.length F) :=
  ⟨k + 1, f, fd, ps, Nat.le_refl _, hm, Fn.kp, hb, fnD Fn S h⟩
end
end Pv
set_option Elab.async false
set_option linter.all false
set_option maxRecDepth 100000
set_option maxHeartbeats 4000000
set_option autoImplicit false
namespace Pv
open PySem PySem.Spec PyProof.Rows L2
/-! ### evaluating what the defs do: rows for simp -/
theorem mulD_l {i j : Int} (h : i.natAbs < 2 ^ 64) : mulD (.int i) (.int j) = some (.int (i * j)) := if_pos (.inl h)
theorem mulD_r {i j : Int} (h : j.natAbs < 2 ^ 64) : mulD (.int i) (.int j) = some (.int (i * j)) := if_pos (.inr h)
theorem addD_i {i j : Int} : addD (.int i) (.int j) = some (.int (i + j)) := (rfl)
theorem addD_t {xs ys : List D} (h : xs.length + ys.length < big) : addD (.tup xs) (.tup ys) = some (.tup (xs ++ ys)) := if_pos h
theorem addD_l {xs ys : List D} (h : xs.length + ys.length < big) : addD (.lst xs) (.lst ys) = some (.lst (xs ++ ys)) := if_pos h
theorem subD_i {i j : Int} : subD (.int i) (.int j) = some (.int (i - j)) := (rfl)
theorem negD_i {i : Int} : negD (.int i) = some (.int (-i)) := (rfl)
theorem absD_i {i : Int} : absD (.int i) = some (.int (if i < 0 then -i else i)) := (rfl)
theorem ltD_i {i j : Int} : ltD (.int i) (.int j) = some (.bl (decide (i < j))) := (rfl)
theorem leD_i {i j : Int} : leD (.int i) (.int j) = some (.bl (decide (i ≤ j))) := (rfl)
theorem gtD_i {i j : Int} : gtD (.int i) (.int j) = some (.bl (decide (j < i))) := (rfl)
theorem geD_i {i j : Int} : geD (.int i) (.int j) = some (.bl (decide (j ≤ i))) := (rfl)
theorem eqD_i {i j : Int} : eqD (.int i) (.int j) = some (.bl (i == j)) := (rfl)
theorem neD_i {i j : Int} : neD (.int i) (.int j) = some (.bl (!(i == j))) := (rfl)
theorem eqD_b {i j : Bool} : eqD (.bl i) (.bl j) = some (.bl (i == j)) := (rfl)
theorem neD_b {i j : Bool} : neD (.bl i) (.bl j) = some (.bl (!(i == j))) := (rfl)
theorem isD_b {i j : Bool} : isD (.bl i) (.bl j) = some (.bl (decide (i = j))) := (rfl)
theorem isntD_b {i j : Bool} : isntD (.bl i) (.bl j) = some (.bl (!decide (i = j))) := (rfl)
theorem modD_i {i j : Int} (h : 0 < j) : modD (.int i) (.int j) = some (.int (i % j)) := if_pos h
theorem fdivD_i {i j : Int} (h : 0 < j) (h2 : j < 2 ^ 64) : fdivD (.int i) (.int j) = some (.int (i / j)) := if_pos ⟨h, h2⟩
theorem ixT0 {x : D} {xs : List D} : ixD (.tup (x :: xs)) (.int 0) = some x := atI_nat (xs := x :: xs) (j := 0) rfl
theorem ixT1 {x y : D} {xs : List D} : ixD (.tup (x :: y :: xs)) (.int 1) = some y := atI_nat (xs := x :: y :: xs) (j := 1) rfl
theorem ixT2 {x y z : D} {xs : List D} : ixD (.tup (x :: y :: z :: xs)) (.int 2) = some z := atI_nat (xs := x :: y :: z :: xs) (j := 2) rfl
theorem ixT3 {x y z u : D} {xs : List D} : ixD (.tup (x :: y :: z :: u :: xs)) (.int 3) = some u := atI_nat (xs := x :: y :: z :: u :: xs) (j := 3) rfl
theorem tupD_s {xs : List D} (h : xs.length < big) : tupD xs = some (.tup xs) := if_pos h
theorem lstD_s {xs : List D} (h : xs.length < big) : lstD xs = some (.lst xs) := if_pos h
theorem tup0 : tupD [] = some (.tup []) := (rfl)
theorem tup1 {a : D} : tupD [a] = some (.tup [a]) := (rfl)
theorem tup2 {a b : D} : tupD [a, b] = some (.tup [a, b]) := (rfl)
theorem tup3 {a b c : D} : tupD [a, b, c] = some (.tup [a, b, c]) := (rfl)
theorem tup4 {a b c d : D} : tupD [a, b, c, d] = some (.tup [a, b, c, d]) := (rfl)
theorem lst0 : lstD [] = some (.lst []) := (rfl)
theorem lst1 {a : D} : lstD [a] = some (.lst [a]) := (rfl)
theorem lst2 {a b : D} : lstD [a, b] = some (.lst [a, b]) := (rfl)
theorem lst3 {a b c : D} : lstD [a, b, c] = some (.lst [a, b, c]) := (rfl)
theorem lst4 {a b c d : D} : lstD [a, b, c, d] = some (.lst [a, b, c, d]) := (rfl)
theorem lst5 {a b c d e : D} : lstD [a, b, c, d, e] = some (.lst [a, b, c, d, e]) := (rfl)
theorem lst7 {a b c d e f g : D} : lstD [a, b, c, d, e, f, g] = some (.lst [a, b, c, d, e, f, g]) := (rfl)
theorem lst8 {a b c d e f g h : D} : lstD [a, b, c, d, e, f, g, h] = some (.lst [a, b, c, d, e, f, g, h]) := (rfl)
theorem bindT1 {i : Nat} {a : D} {ρ : Env} : bindP (.tup [i]) (.tup [a]) ρ = some (ρ.set i (.sh a)) := (rfl)
theorem bindT2 {i j : Nat} {a b : D} {ρ : Env} : bindP (.tup [i, j]) (.tup [a, b]) ρ = some ((ρ.set i (.sh a)).set j (.sh b)) := (rfl)
theorem bindT3 {i j k : Nat} {a b c : D} {ρ : Env} : bindP (.tup [i, j, k]) (.tup [a, b, c]) ρ = some (((ρ.set i (.sh a)).set j (.sh b)).set k (.sh c)) := (rfl)
theorem bindT4 {i j k l : Nat} {a b c d : D} {ρ : Env} : bindP (.tup [i, j, k, l]) (.tup [a, b, c, d]) ρ = some ((((ρ.set i (.sh a)).set j (.sh b)).set k (.sh c)).set l (.sh d)) := (rfl)
theorem isiD_i {i : Int} : isiD "int" (.int i) = some (.bl true) := (rfl)
theorem isiD_ib {i : Bool} : isiD "int" (.bl i) = some (.bl true) := (rfl)
theorem isiD_is {i : Str} : isiD "int" (.str i) = some (.bl false) := (rfl)
theorem isiD_in : isiD "int" .non = some (.bl false) := (rfl)
theorem isiD_it {i : List D} : isiD "int" (.tup i) = some (.bl false) := (rfl)
theorem isiD_il {i : List D} : isiD "int" (.lst i) = some (.bl false) := (rfl)
theorem isiB_i {i : Int} : isiD "bool" (.int i) = some (.bl false) := (rfl)
theorem isiB_b {i : Bool} : isiD "bool" (.bl i) = some (.bl true) := (rfl)
theorem isiB_s {i : Str} : isiD "bool" (.str i) = some (.bl false) := (rfl)
theorem isiT_i {i : Int} : isiD "tuple" (.int i) = some (.bl false) := (rfl)
theorem isiT_b {i : Bool} : isiD "tuple" (.bl i) = some (.bl false) := (rfl)
theorem isiT_s {i : Str} : isiD "tuple" (.str i) = some (.bl false) := (rfl)
theorem isiT_n : isiD "tuple" .non = some (.bl false) := (rfl)
theorem isiT_t {i : List D} : isiD "tuple" (.tup i) = some (.bl true) := (rfl)
theorem isiT_l {i : List D} : isiD "tuple" (.lst i) = some (.bl false) := (rfl)
theorem truD_b {b : Bool} : truD (.bl b) = some b := (rfl)
theorem truD_t {xs : List D} : truD (.tup xs) = some (!xs.isEmpty) := (rfl)
theorem truD_l {xs : List D} : truD (.lst xs) = some (!xs.isEmpty) := (rfl)
theorem lenD_t {xs : List D} : lenD (.tup xs) = some (.int xs.length) := (rfl)
theorem lenD_l {xs : List D} : lenD (.lst xs) = some (.int xs.length) := (rfl)
theorem notD_b {b : Bool} : notD (.bl b) = some (.bl (!b)) := (rfl)
theorem tupleD_l {xs : List D} : tupleD (.lst xs) = some (.tup xs) := (rfl)
theorem tupleD_t {xs : List D} : tupleD (.tup xs) = some (.tup xs) := (rfl)
theorem allD_b (bs : List Bool) : allD (.lst (bs.map D.bl)) = some (.bl (bs.all id)) := by
  show (asBls (bs.map D.bl)).bind _ = _
  rw [asBls_map]; rfl
theorem anyD_b (bs : List Bool) : anyD (.lst (bs.map D.bl)) = some (.bl (bs.any id)) := by
  show (asBls (bs.map D.bl)).bind _ = _
  rw [asBls_map]; rfl
theorem sumD_i (ns : List Int) : sumD (.lst (ns.map D.int)) = some (.int ns.sum) := by
  show (asInts (ns.map D.int)).bind _ = _
  rw [asInts_map]; rfl
theorem sumD_t (ns : List Int) : sumD (.tup (ns.map D.int)) = some (.int ns.sum) := by
  show (asInts (ns.map D.int)).bind _ = _
  rw [asInts_map]; rfl
theorem bindP1 {i : Nat} {d : D} {ρ : Env} : bindP (.one i) d ρ = some (ρ.set i (.sh d)) := (rfl)
theorem bindPt {is : List Nat} {ds : List D} {ρ : Env} (h : ds.length = is.length) : bindP (.tup is) (.tup ds) ρ = some (setE ρ is ds) := if_pos h
theorem nm_at {i : Nat} {ρ : Env} {d : D} (h : ρ[i]? = some (.sh d)) : nm i ρ = some d := by unfold nm; rw [h]
theorem nb_at {i : Nat} {ρ : Env} {d : D} (h : ρ[i]? = some (.sh d)) : nb i ρ = some d := by unfold nb; rw [h]
theorem nb_ow {i : Nat} {ρ : Env} {d : D} (h : ρ[i]? = some (.ow d)) : nb i ρ = some d := by unfold nb; rw [h]
theorem nm_0 {d : D} {ρ : Env} : nm 0 (.sh d :: ρ) = some d := (rfl)
theorem nb_0 {d : D} {ρ : Env} : nb 0 (.sh d :: ρ) = some d := (rfl)
theorem nbo_0 {d : D} {ρ : Env} : nb 0 (.ow d :: ρ) = some d := (rfl)
theorem nm_s {i : Nat} {s : Sl} {ρ : Env} : nm (i + 1) (s :: ρ) = nm i ρ := by unfold nm; rw [List.getElem?_cons_succ]
theorem nb_s {i : Nat} {s : Sl} {ρ : Env} : nb (i + 1) (s :: ρ) = nb i ρ := by unfold nb; rw [List.getElem?_cons_succ]
/-- a def's end -/
def endD : Option Res → Option D
  | some (.rt d) => some d
  | some (.nx _) => some .non
  | none => none
theorem callD_eq {N : List Str} {n : Nat} {F : Env → Option Res} {ds : List D} (h : ds.length = n) : callD N n F ds = endD (F (startE N ds)) := by
  unfold callD
  rw [if_pos h]
  cases F (startE N ds) with
  | none => rfl
  | some r => cases r <;> rfl
theorem endD_ret {x : Option D} : endD (x.bind fun d => some (.rt d)) = x := by cases x <;> rfl
theorem endD_rt {d : D} : endD (some (.rt d)) = some d := (rfl)
def seqR (r : Option Res) (g : Env → Option Res) : Option Res := r.bind fun r => match r with
  | .nx ρ' => g ρ'
  | .rt d => some (.rt d)
theorem sseq_eq {f g : Env → Option Res} {ρ : Env} : sseq f g ρ = seqR (f ρ) g := (rfl)
theorem seqR_nx {ρ : Env} {g : Env → Option Res} : seqR (some (.nx ρ)) g = g ρ := (rfl)
theorem seqR_rt {d : D} {g : Env → Option Res} : seqR (some (.rt d)) g = some (.rt d) := (rfl)
theorem seqR_ite {c : Prop} [Decidable c] {a b : Option Res} {g : Env → Option Res} : seqR (if c then a else b) g = if c then seqR a g else seqR b g := by split <;> rfl
theorem endD_ite {c : Prop} [Decidable c] {a b : Option Res} : endD (if c then a else b) = if c then endD a else endD b := by split <;> rfl
theorem bind_ite {α β : Type} {c : Prop} [Decidable c] {a b : Option α} {g : α → Option β} : (if c then a else b).bind g = if c then a.bind g else b.bind g := by split <;> rfl
theorem ite_some {α : Type} {c : Prop} [Decidable c] {a b : α} : (if c then some a else some b) = some (if c then a else b) := by split <;> rfl
theorem mulD_lit {n : Nat} {j : Int} (h : (OfNat.ofNat n : Int).natAbs < 2 ^ 64) : mulD (.int (OfNat.ofNat n)) (.int j) = some (.int (OfNat.ofNat n * j)) := mulD_l h
theorem sret_eq {a : Env → Option D} {ρ : Env} : sret a ρ = (a ρ).bind fun d => some (.rt d) := (rfl)
theorem sset_eq {i : Nat} {a : Env → Option D} {ρ : Env} : sset i a ρ = (a ρ).bind fun d => some (.nx (ρ.set i (.sh d))) := (rfl)
theorem sown_eq {i : Nat} {a : Env → Option D} {ρ : Env} : sown i a ρ = (a ρ).bind fun d => some (.nx (ρ.set i (.ow d))) := (rfl)
theorem sbind_eq {p : Pat} {a : Env → Option D} {ρ : Env} : sbind p a ρ = (a ρ).bind fun d => (bindP p d ρ).bind fun ρ' => some (.nx ρ') := (rfl)
theorem snx_eq {ρ : Env} : snx ρ = some (.nx ρ) := (rfl)
theorem sif_eq {c : Env → Option Bool} {a b : Env → Option Res} {ρ : Env} : sif c a b ρ = (c ρ).bind fun k => if k = true then a ρ else b ρ := (rfl)
theorem f1_eq {g : D → Option D} {a : Env → Option D} {ρ : Env} : f1 g a ρ = (a ρ).bind g := (rfl)
theorem f2_eq {g : D → D → Option D} {a b : Env → Option D} {ρ : Env} : f2 g a b ρ = (a ρ).bind fun x => (b ρ).bind fun y => g x y := (rfl)
theorem fN_eq {g : List D → Option D} {a : Env → Option (List D)} {ρ : Env} : fN g a ρ = (a ρ).bind g := (rfl)
theorem fcons_eq {a : Env → Option D} {r : Env → Option (List D)} {ρ : Env} : fcons a r ρ = (a ρ).bind fun x => (r ρ).bind fun xs => some (x :: xs) := (rfl)
theorem fnil_eq {ρ : Env} : fnil ρ = some [] := (rfl)
theorem kc_eq {d : D} {ρ : Env} : kc d ρ = some d := (rfl)
theorem tv_eq {a : Env → Option D} {ρ : Env} : tv a ρ = (a ρ).bind truD := (rfl)
def boolD : D → Option Bool
  | .bl c => some c
  | _ => none
theorem boolD_b {b : Bool} : boolD (.bl b) = some b := (rfl)
theorem tb_eq {a : Env → Option D} {ρ : Env} : tb a ρ = (a ρ).bind boolD := by
  unfold tb boolD
  cases a ρ with
  | none => rfl
  | some d => cases d <;> rfl
theorem tor_eq {a b : Env → Option Bool} {ρ : Env} : tor a b ρ = (a ρ).bind fun c => if c = true then some true else b ρ := (rfl)
theorem tand_eq {a b : Env → Option Bool} {ρ : Env} : tand a b ρ = (a ρ).bind fun c => if c = true then b ρ else some false := (rfl)
theorem tnot_eq {a : Env → Option Bool} {ρ : Env} : tnot a ρ = (a ρ).bind fun c => some (!c) := (rfl)
theorem vand_eq {a b : Env → Option D} {ρ : Env} : vand a b ρ = (a ρ).bind fun x => (truD x).bind fun c => if c = true then b ρ else some x := (rfl)
theorem vor_eq {a b : Env → Option D} {ρ : Env} : vor a b ρ = (a ρ).bind fun x => (truD x).bind fun c => if c = true then some x else b ρ := (rfl)
theorem spar_eq {i j : Nat} {a b : Env → Option D} {ρ : Env} : spar i j a b ρ = (a ρ).bind fun x => (b ρ).bind fun y => some (.nx ((ρ.set i (.sh x)).set j (.sh y))) := (rfl)
theorem sfor_eq {I : Env → Option (List D)} {p : Pat} {b : Env → Option Res} {ρ : Env} : sfor I p b ρ = (I ρ).bind fun items => forD p b items ρ := (rfl)
theorem iseq_eq {a : Env → Option D} {ρ : Env} : iseq a ρ = (a ρ).bind seqD := (rfl)
theorem seqD_l {xs : List D} : seqD (.lst xs) = some xs := (rfl)
theorem seqD_t {xs : List D} : seqD (.tup xs) = some xs := (rfl)
theorem ienum_eq {a : Env → Option D} {ρ : Env} : ienum a ρ = (a ρ).bind enumD := (rfl)
theorem enumD_l {xs : List D} : enumD (.lst xs) = some (numL xs 0) := (rfl)
theorem enumD_t {xs : List D} : enumD (.tup xs) = some (numL xs 0) := (rfl)
def inR (j : Int) : Prop := -(2 ^ 40) ≤ j ∧ j < 2 ^ 40
noncomputable def gdR {α : Type} (p : Prop) (x : α) : Option α := @ite _ p (Classical.propDecidable p) (some x) none
theorem gdR_t {α : Type} {p : Prop} {x : α} (h : p) : gdR p x = some x := if_pos h
theorem gdR_e {α : Type} {p : Prop} [Decidable p] {x : α} : (if p then some x else none) = gdR p x := by
  by_cases h : p
  · rw [if_pos h, gdR_t h]
  · rw [if_neg h]; exact (if_neg h).symm
noncomputable def rng1D : D → Option (List D)
  | .int j => gdR (-(2 ^ 40) ≤ j ∧ j < 2 ^ 40) (rangeL 0 j)
  | _ => none
theorem rng1D_i {j : Int} (h : -(2 ^ 40) ≤ j ∧ j < 2 ^ 40) : rng1D (.int j) = some (rangeL 0 j) := gdR_t h
theorem irange1_eq {a : Env → Option D} {ρ : Env} : irange1 a ρ = (a ρ).bind rng1D := by
  unfold irange1
  cases a ρ with
  | none => rfl
  | some d => cases d <;> first | rfl | exact gdR_e
noncomputable def rng2D : D → D → Option (List D)
  | .int i, .int j => gdR (-(2 ^ 40) ≤ i ∧ i < 2 ^ 40 ∧ -(2 ^ 40) ≤ j ∧ j < 2 ^ 40) (rangeL i j)
  | _, _ => none
theorem rng2D_i {i j : Int} (h : -(2 ^ 40) ≤ i ∧ i < 2 ^ 40 ∧ -(2 ^ 40) ≤ j ∧ j < 2 ^ 40) : rng2D (.int i) (.int j) = some (rangeL i j) := gdR_t h
theorem irange2_eq {a b : Env → Option D} {ρ : Env} : irange2 a b ρ = (a ρ).bind fun x => (b ρ).bind fun y => rng2D x y := by
  unfold irange2
  cases a ρ with
  | none => rfl
  | some d => cases b ρ with
    | none => cases d <;> rfl
    | some e => cases d <;> cases e <;> first | rfl | exact gdR_e
theorem lcF_eq {vs : List Nat} {I : Env → Option (List D)} {p : Pat} {T : Env → Option Bool} {E : Env → Option D} {ρ : Env} : lcF vs I p T E ρ = (I ρ).bind fun items => (lcGo p T E (wipeE ρ vs) items).bind fun out => if items.length < big then some (.lst out) else none := (rfl)
def chL (g' : D → D → Option D) (y : D) (c : Option D) : D → Option D
  | .bl true => c.bind fun w => g' y w
  | .bl false => some (.bl false)
  | _ => none
theorem chL_t {g' : D → D → Option D} {y : D} {c : Option D} : chL g' y c (.bl true) = c.bind fun w => g' y w := (rfl)
theorem chL_f {g' : D → D → Option D} {y : D} {c : Option D} : chL g' y c (.bl false) = some (.bl false) := (rfl)
theorem fch_eq {g g' : D → D → Option D} {a b c : Env → Option D} {ρ : Env} : fch g g' a b c ρ = (a ρ).bind fun x => (b ρ).bind fun y => (g x y).bind (chL g' y (c ρ)) := by
  unfold fch
  have e : ∀ (y z : D), (match z with
    | .bl true => (c ρ).bind fun w => g' y w
    | .bl false => some (.bl false)
    | _ => none) = chL g' y (c ρ) z := fun y z => by
      cases z <;> first | rfl | (rename_i b; cases b <;> rfl)
  cases a ρ with
  | none => rfl
  | some x =>
    cases b ρ with
    | none => rfl
    | some y =>
      show (g x y).bind _ = (g x y).bind _
      cases g x y with
      | none => rfl
      | some z => exact e y z
theorem onone_eq {ρ : Env} : onone ρ = some none := (rfl)
def intO : D → Option (Option Int)
  | .int i => some (some i)
  | _ => none
theorem intO_i {i : Int} : intO (.int i) = some (some i) := (rfl)
theorem osome_eq {a : Env → Option D} {ρ : Env} : osome a ρ = (a ρ).bind intO := by
  unfold osome intO
  cases a ρ with
  | none => rfl
  | some d => cases d <;> rfl
theorem fsl_eq {a : Env → Option D} {l h : Env → Option (Option Int)} {ρ : Env} : fsl a l h ρ = (a ρ).bind fun x => (l ρ).bind fun lo => (h ρ).bind fun hi => slD x lo hi := (rfl)
theorem sdrop_eq {a : Env → Option D} {ρ : Env} : sdrop a ρ = (a ρ).bind fun _ => some (.nx ρ) := (rfl)
/-! ### loops and comprehensions over data -/
theorem lcGo_map {α : Type} {p : Pat} {T : Env → Option Bool} {E : Env → Option D} {ρ : Env} (enc : α → D) (t : α → Bool) (g : α → D) : ∀ (xs : List α), (∀ x ∈ xs, ∃ ρ1, bindP p (enc x) ρ = some ρ1 ∧ T ρ1 = some (t x) ∧ (t x = true → E ρ1 = some (g x))) → lcGo p T E ρ (xs.map enc) = some ((xs.filter t).map g)
  | [], _ => rfl
  | x :: xs, h => by
    obtain ⟨ρ1, h1, h2, h3⟩ := h x List.mem_cons_self
    have ih := lcGo_map enc t g xs fun y hy => h y (List.mem_cons_of_mem _ hy)
    rw [List.map_cons]
    unfold lcGo
    rw [h1, Option.bind_some, h2, Option.bind_some, ih]
    cases ht : t x with
    | true => rw [if_pos rfl, h3 ht, List.filter_cons_of_pos ht]; rfl
    | false => rw [if_neg Bool.false_ne_true, List.filter_cons_of_neg (by rw [ht]; exact Bool.false_ne_true)]
theorem lcGo_all {α : Type} {p : Pat} {E : Env → Option D} {ρ : Env} (enc : α → D) (g : α → D) (xs : List α) (h : ∀ x ∈ xs, ∃ ρ1, bindP p (enc x) ρ = some ρ1 ∧ E ρ1 = some (g x)) : lcGo p tyes E ρ (xs.map enc) = some (xs.map g) := by
  rw [lcGo_map enc (fun _ => true) g xs fun x hx => ?_]
  · rw [List.filter_eq_self.mpr fun _ _ => rfl]
  · obtain ⟨ρ1, h1, h2⟩ := h x hx
    exact ⟨ρ1, h1, rfl, fun _ => h2⟩
theorem forD_nx {α : Type} {p : Pat} {b : Env → Option Res} (enc : α → D) (I : Env → Prop) : ∀ (xs : List α), (∀ x ∈ xs, ∀ ρ, I ρ → ∃ ρ1 ρ2, bindP p (enc x) ρ = some ρ1 ∧ b ρ1 = some (.nx ρ2) ∧ I ρ2) → ∀ ρ, I ρ → ∃ ρ', forD p b (xs.map enc) ρ = some (.nx ρ') ∧ I ρ'
  | [], _, ρ, h0 => ⟨ρ, rfl, h0⟩
  | x :: xs, h, ρ, h0 => by
    obtain ⟨ρ1, ρ2, h1, h2, h3⟩ := h x List.mem_cons_self ρ h0
    obtain ⟨ρ', h4, h5⟩ := forD_nx enc I xs (fun y hy => h y (List.mem_cons_of_mem _ hy)) ρ2 h3
    refine ⟨ρ', ?_, h5⟩
    rw [List.map_cons]
    unfold forD
    rw [h1, Option.bind_some, h2, Option.bind_some]
    exact h4
/-- a loop that carries a state: st is told by the turn's items so far -/
theorem forD_fold {α β : Type} {p : Pat} {b : Env → Option Res} (enc : α → D) (f : β → α → β) (I : β → Env → Prop) : ∀ (xs : List α) (s : β), (∀ x ∈ xs, ∀ s ρ, I s ρ → ∃ ρ1 ρ2, bindP p (enc x) ρ = some ρ1 ∧ b ρ1 = some (.nx ρ2) ∧ I (f s x) ρ2) → ∀ ρ, I s ρ → ∃ ρ', forD p b (xs.map enc) ρ = some (.nx ρ') ∧ I (xs.foldl f s) ρ'
  | [], s, _, ρ, h0 => ⟨ρ, rfl, h0⟩
  | x :: xs, s, h, ρ, h0 => by
    obtain ⟨ρ1, ρ2, h1, h2, h3⟩ := h x List.mem_cons_self s ρ h0
    obtain ⟨ρ', h4, h5⟩ := forD_fold enc f I xs (f s x) (fun y hy => h y (List.mem_cons_of_mem _ hy)) ρ2 h3
    refine ⟨ρ', ?_, h5⟩
    rw [List.map_cons]
    unfold forD
    rw [h1, Option.bind_some, h2, Option.bind_some]
    exact h4
theorem numL_map {α : Type} (enc : α → D) : ∀ (xs : List α) (k : Nat), numL (xs.map enc) k = (xs.zipIdx k).map fun p => D.tup [.int (p.2 : Int), enc p.1]
  | [], _ => rfl
  | x :: xs, k => by
    rw [List.map_cons, List.zipIdx_cons, List.map_cons]
    show _ :: numL (xs.map enc) (k + 1) = _
    rw [numL_map enc xs (k + 1)]
theorem whileD_t {c : Env → Option Bool} {b : Env → Option Res} {n : Nat} {ρ ρ' : Env} (hc : c ρ = some true) (hb : b ρ = some (.nx ρ')) : whileD c b (n + 1) ρ = whileD c b n ρ' := by
  show (c ρ).bind _ = _
  rw [hc, Option.bind_some, if_pos rfl, hb]; rfl
theorem whileD_f {c : Env → Option Bool} {b : Env → Option Res} {n : Nat} {ρ : Env} (hc : c ρ = some false) : whileD c b (n + 1) ρ = some (.nx ρ) := by
  show (c ρ).bind _ = _
  rw [hc, Option.bind_some, if_neg Bool.false_ne_true]
end Pv
set_option Elab.async false
set_option linter.all false
set_option maxRecDepth 100000
set_option maxHeartbeats 4000000
set_option autoImplicit false
namespace Pv
open PySem PySem.Spec PyProof.Rows L2
/-! ### slices, wipes, loops: more rows -/
theorem cutL_take {α : Type} (xs : List α) (k : Nat) : cutL xs none (some (k : Int)) = xs.take k := by
  unfold cutL
  rw [HT.sIx_none, HT.sIx_nat, List.drop_zero, Nat.sub_zero]
  by_cases h : k ≤ xs.length
  · rw [Nat.min_eq_left h]
  · rw [Nat.min_eq_right (by omega), List.take_length, List.take_of_length_le (by omega)]
theorem slT {xs : List D} {k : Nat} : slD (.tup xs) none (some (OfNat.ofNat k)) = some (.tup (xs.take k)) := congrArg (fun z : List D => some (D.tup z)) (cutL_take xs k)
theorem slL {xs : List D} {k : Nat} : slD (.lst xs) none (some (OfNat.ofNat k)) = some (.lst (xs.take k)) := congrArg (fun z : List D => some (D.lst z)) (cutL_take xs k)
theorem slS {xs : List Int} {k : Nat} : slD (.scr xs) none (some (OfNat.ofNat k)) = some (.lst ((xs.take k).map D.int)) := congrArg (fun z : List Int => some (D.lst (z.map D.int))) (cutL_take xs k)
theorem slT_1 {xs : List D} : slD (.tup xs) none (some 1) = some (.tup (xs.take 1)) := slT
theorem slL_1 {xs : List D} : slD (.lst xs) none (some 1) = some (.lst (xs.take 1)) := slL
theorem slS_1 {xs : List Int} : slD (.scr xs) none (some 1) = some (.lst ((xs.take 1).map D.int)) := slS
theorem slT_2 {xs : List D} : slD (.tup xs) none (some 2) = some (.tup (xs.take 2)) := slT
theorem slL_2 {xs : List D} : slD (.lst xs) none (some 2) = some (.lst (xs.take 2)) := slL
theorem slS_2 {xs : List Int} : slD (.scr xs) none (some 2) = some (.lst ((xs.take 2).map D.int)) := slS
theorem slT_3 {xs : List D} : slD (.tup xs) none (some 3) = some (.tup (xs.take 3)) := slT
theorem slL_3 {xs : List D} : slD (.lst xs) none (some 3) = some (.lst (xs.take 3)) := slL
theorem slS_3 {xs : List Int} : slD (.scr xs) none (some 3) = some (.lst ((xs.take 3).map D.int)) := slS
theorem slT_4 {xs : List D} : slD (.tup xs) none (some 4) = some (.tup (xs.take 4)) := slT
theorem slL_4 {xs : List D} : slD (.lst xs) none (some 4) = some (.lst (xs.take 4)) := slL
theorem slS_4 {xs : List Int} : slD (.scr xs) none (some 4) = some (.lst ((xs.take 4).map D.int)) := slS
theorem slT_5 {xs : List D} : slD (.tup xs) none (some 5) = some (.tup (xs.take 5)) := slT
theorem slL_5 {xs : List D} : slD (.lst xs) none (some 5) = some (.lst (xs.take 5)) := slL
theorem slS_5 {xs : List Int} : slD (.scr xs) none (some 5) = some (.lst ((xs.take 5).map D.int)) := slS
theorem slT_6 {xs : List D} : slD (.tup xs) none (some 6) = some (.tup (xs.take 6)) := slT
theorem slL_6 {xs : List D} : slD (.lst xs) none (some 6) = some (.lst (xs.take 6)) := slL
theorem slS_6 {xs : List Int} : slD (.scr xs) none (some 6) = some (.lst ((xs.take 6).map D.int)) := slS
theorem slT_7 {xs : List D} : slD (.tup xs) none (some 7) = some (.tup (xs.take 7)) := slT
theorem slL_7 {xs : List D} : slD (.lst xs) none (some 7) = some (.lst (xs.take 7)) := slL
theorem slS_7 {xs : List Int} : slD (.scr xs) none (some 7) = some (.lst ((xs.take 7).map D.int)) := slS
theorem slT_8 {xs : List D} : slD (.tup xs) none (some 8) = some (.tup (xs.take 8)) := slT
theorem slL_8 {xs : List D} : slD (.lst xs) none (some 8) = some (.lst (xs.take 8)) := slL
theorem slS_8 {xs : List Int} : slD (.scr xs) none (some 8) = some (.lst ((xs.take 8).map D.int)) := slS
theorem slT_9 {xs : List D} : slD (.tup xs) none (some 9) = some (.tup (xs.take 9)) := slT
theorem slL_9 {xs : List D} : slD (.lst xs) none (some 9) = some (.lst (xs.take 9)) := slL
theorem slS_9 {xs : List Int} : slD (.scr xs) none (some 9) = some (.lst ((xs.take 9).map D.int)) := slS
theorem slT_10 {xs : List D} : slD (.tup xs) none (some 10) = some (.tup (xs.take 10)) := slT
theorem slL_10 {xs : List D} : slD (.lst xs) none (some 10) = some (.lst (xs.take 10)) := slL
theorem slS_10 {xs : List Int} : slD (.scr xs) none (some 10) = some (.lst ((xs.take 10).map D.int)) := slS
theorem slT_12 {xs : List D} : slD (.tup xs) none (some 12) = some (.tup (xs.take 12)) := slT
theorem slL_12 {xs : List D} : slD (.lst xs) none (some 12) = some (.lst (xs.take 12)) := slL
theorem slS_12 {xs : List Int} : slD (.scr xs) none (some 12) = some (.lst ((xs.take 12).map D.int)) := slS
theorem slT_16 {xs : List D} : slD (.tup xs) none (some 16) = some (.tup (xs.take 16)) := slT
theorem slL_16 {xs : List D} : slD (.lst xs) none (some 16) = some (.lst (xs.take 16)) := slL
theorem slS_16 {xs : List Int} : slD (.scr xs) none (some 16) = some (.lst ((xs.take 16).map D.int)) := slS
theorem addD_L {xs ys : List D} (n : Nat) (h : xs.length + ys.length = n) (h2 : n < big) : addD (.lst xs) (.lst ys) = some (.lst (xs ++ ys)) := addD_l (by omega)
theorem addD_T {xs ys : List D} (n : Nat) (h : xs.length + ys.length = n) (h2 : n < big) : addD (.tup xs) (.tup ys) = some (.tup (xs ++ ys)) := addD_t (by omega)
theorem lstD_n {xs : List D} (n : Nat) (h : xs.length = n) (h2 : n < big) : lstD xs = some (.lst xs) := lstD_s (by omega)
theorem tupD_n {xs : List D} (n : Nat) (h : xs.length = n) (h2 : n < big) : tupD xs = some (.tup xs) := tupD_s (by omega)
theorem obs {α β : Type} {a : α} {f : α → Option β} : (some a).bind f = f a := (rfl)
theorem obn {α β : Type} {f : α → Option β} : (none : Option α).bind f = none := (rfl)
theorem ls0 {α : Type} {x y : α} {xs : List α} : (x :: xs).set 0 y = y :: xs := (rfl)
theorem lsS {α : Type} {x y : α} {n : Nat} {xs : List α} : (x :: xs).set (n + 1) y = x :: xs.set n y := (rfl)
theorem wipe_nil {ρ : Env} : wipeE ρ [] = ρ := (rfl)
theorem wipe_cons {ρ : Env} {v : Nat} {vs : List Nat} : wipeE ρ (v :: vs) = (wipeE ρ vs).set v .no := (rfl)
theorem swhile_eq {c : Env → Option Bool} {b : Env → Option Res} {ρ : Env} : swhile c b ρ = whileD c b fuel ρ := (rfl)
/-- it ends with a state that keeps I -/
def nxP (r : Option Res) (I : Env → Prop) : Prop := ∃ ρ', r = some (.nx ρ') ∧ I ρ'
theorem nxP_nx {I : Env → Prop} {ρ : Env} (h : I ρ) : nxP (some (.nx ρ)) I := ⟨ρ, rfl, h⟩
theorem nxP_seq {I J : Env → Prop} {r : Option Res} {g : Env → Option Res} (h : nxP r I) (hg : ∀ ρ, I ρ → nxP (g ρ) J) : nxP (seqR r g) J := by
  obtain ⟨ρ, rfl, h1⟩ := h
  exact hg ρ h1
theorem nxP_mono {I J : Env → Prop} {r : Option Res} (h : nxP r I) (hg : ∀ ρ, I ρ → J ρ) : nxP r J := by
  obtain ⟨ρ, rfl, h1⟩ := h
  exact ⟨ρ, rfl, hg ρ h1⟩
theorem endP_seq {I : Env → Prop} {r : Option Res} {g : Env → Option Res} {d : Option D} (h : nxP r I) (hg : ∀ ρ, I ρ → endD (g ρ) = d) : endD (seqR r g) = d := by
  obtain ⟨ρ, rfl, h1⟩ := h
  exact hg ρ h1
theorem nxP_for {α : Type} {p : Pat} {b : Env → Option Res} (enc : α → D) {I : Env → Prop} (xs : List α) (h : ∀ x ∈ xs, ∀ ρ, I ρ → ∃ ρ1, bindP p (enc x) ρ = some ρ1 ∧ nxP (b ρ1) I) {ρ : Env} (h0 : I ρ) : nxP (forD p b (xs.map enc) ρ) I := by
  obtain ⟨ρ', h1, h2⟩ := forD_nx enc I xs (fun x hx ρ hρ => by
    obtain ⟨ρ1, e1, ρ2, e2, i2⟩ := h x hx ρ hρ
    exact ⟨ρ1, ρ2, e1, e2, i2⟩) ρ h0
  exact ⟨ρ', h1, h2⟩
theorem nxP_forI {p : Pat} {b : Env → Option Res} {I : Env → Prop} (xs : List D) (h : ∀ x ∈ xs, ∀ ρ, I ρ → ∃ ρ1, bindP p x ρ = some ρ1 ∧ nxP (b ρ1) I) {ρ : Env} (h0 : I ρ) : nxP (forD p b xs ρ) I := by
  have := nxP_for (p := p) (b := b) (id : D → D) xs h h0
  rwa [List.map_id] at this
theorem nxP_fold {α β : Type} {p : Pat} {b : Env → Option Res} (enc : α → D) (f : β → α → β) (I : β → Env → Prop) (xs : List α) (s : β) (h : ∀ x ∈ xs, ∀ s ρ, I s ρ → ∃ ρ1, bindP p (enc x) ρ = some ρ1 ∧ nxP (b ρ1) (I (f s x))) {ρ : Env} (h0 : I s ρ) : nxP (forD p b (xs.map enc) ρ) (I (xs.foldl f s)) := by
  obtain ⟨ρ', h1, h2⟩ := forD_fold enc f I xs s (fun x hx s ρ hρ => by
    obtain ⟨ρ1, e1, ρ2, e2, i2⟩ := h x hx s ρ hρ
    exact ⟨ρ1, ρ2, e1, e2, i2⟩) ρ h0
  exact ⟨ρ', h1, h2⟩
theorem lcF_map {α : Type} {vs : List Nat} {Is : Env → Option (List D)} {p : Pat} {T : Env → Option Bool} {E : Env → Option D} {ρ : Env} (enc : α → D) (t : α → Bool) (g : α → D) (xs : List α) (hI : Is ρ = some (xs.map enc)) (hl : xs.length < big) (h : ∀ x ∈ xs, ∃ ρ1, bindP p (enc x) (wipeE ρ vs) = some ρ1 ∧ T ρ1 = some (t x) ∧ (t x = true → E ρ1 = some (g x))) : lcF vs Is p T E ρ = some (.lst ((xs.filter t).map g)) := by
  rw [lcF_eq, hI, Option.bind_some, lcGo_map enc t g xs h, Option.bind_some, List.length_map, if_pos hl]
theorem lcF_all {α : Type} {vs : List Nat} {Is : Env → Option (List D)} {p : Pat} {E : Env → Option D} {ρ : Env} (enc : α → D) (g : α → D) (xs : List α) (hI : Is ρ = some (xs.map enc)) (hl : xs.length < big) (h : ∀ x ∈ xs, ∃ ρ1, bindP p (enc x) (wipeE ρ vs) = some ρ1 ∧ E ρ1 = some (g x)) : lcF vs Is p tyes E ρ = some (.lst (xs.map g)) := by
  rw [lcF_eq, hI, Option.bind_some, lcGo_all enc g xs h, Option.bind_some, List.length_map, if_pos hl]
theorem rangeL_nat (n : Nat) : rangeL 0 (n : Int) = (List.range n).map fun i => D.int (i : Nat) := by
  unfold rangeL
  rw [Int.sub_zero, Int.toNat_natCast]
  exact List.map_congr_left fun i _ => by rw [Int.zero_add]
theorem Int.ex_nat {a : Int} (h : 0 ≤ a) : ∃ n : Nat, a = (n : Int) := ⟨a.toNat, (Int.toNat_of_nonneg h).symm⟩
theorem k24 : (24 : Int).natAbs < 2 ^ 64 := by decide
theorem k1 : (1 : Int).natAbs < 2 ^ 64 := by decide
/-- a while loop that a measure ends -/
theorem whileD_ind {c : Env → Option Bool} {b : Env → Option Res} {α : Type} (st : α → Env) (ok : α → Prop) (go : α → Bool) (nx : α → α) (m : α → Nat) (hc : ∀ a, ok a → c (st a) = some (go a)) (hb : ∀ a, ok a → go a = true → b (st a) = some (.nx (st (nx a))) ∧ ok (nx a) ∧ m (nx a) < m a) (J : α → Prop) (hJ : ∀ a, ok a → go a = true → J a → J (nx a)) : ∀ (n : Nat) (a : α), ok a → J a → m a < n → ∃ z, whileD c b n (st a) = some (.nx (st z)) ∧ ok z ∧ go z = false ∧ J z
  | 0, _, _, _, h => absurd h (Nat.not_lt_zero _)
  | n + 1, a, h1, hj, h => by
    cases g : go a with
    | false => exact ⟨a, whileD_f (by rw [hc a h1, g]), h1, g, hj⟩
    | true =>
      obtain ⟨e1, e2, e3⟩ := hb a h1 g
      rw [whileD_t (by rw [hc a h1, g]) e1]
      exact whileD_ind st ok go nx m hc hb J hJ n (nx a) e2 (hJ a h1 g hj) (by omega)
theorem listD_t {xs : List D} : listD (.tup xs) = some (.lst xs) := (rfl)
theorem listD_l {xs : List D} : listD (.lst xs) = some (.lst xs) := (rfl)
theorem eqL_refl {f : D → D → Bool} : ∀ (xs : List D), (∀ x ∈ xs, f x x = true) → eqL f xs xs = true
  | [], _ => rfl
  | x :: xs, h => by
    show (f x x && eqL f xs xs) = true
    rw [h x List.mem_cons_self, eqL_refl xs fun y hy => h y (List.mem_cons_of_mem _ hy)]; rfl
theorem eqN_refl : ∀ (n : Nat) (d : D), okD n d = true → eqN n d d = true
  | 0, _, h => by cases h
  | n + 1, d, h => by
    cases d <;> first | rfl | cases h | skip
    · exact beq_self_eq_true _
    · exact beq_self_eq_true _
    · exact eqL_refl _ fun x hx => eqN_refl n x (List.all_eq_true.mp h x hx)
    · exact eqL_refl _ fun x hx => eqN_refl n x (List.all_eq_true.mp h x hx)
theorem okD_ints (n : Nat) (ns : List Int) : okD (n + 2) (.tup (ns.map D.int)) = true := by
  show (ns.map D.int).all (okD (n + 1)) = true
  rw [List.all_map]
  exact List.all_eq_true.mpr fun _ _ => rfl
end Pv
set_option Elab.async false
set_option linter.all false
set_option maxRecDepth 100000
set_option maxHeartbeats 4000000
set_option autoImplicit false
namespace Pv
open PySem PySem.Spec PyProof.Rows L2
/-! ### sorted(set(xs)), xs a list of whole numbers -/
abbrev ob0 (w : World) : Obj := { cls := .type "set", dict := none, data := .set #[] 0 (.fresh 0 0 (!w.params.followText "set-order")) }
section
variable {P : Program} {w : World} {A : Around} {E : Value → Shared → Prop} {s : Shared}
abbrev GotS (w : World) (h0 h' : Heap) (ns : List Int) (c : Nat) : Prop := SetR w h' h0.objs.size (fun j => decide (j ∈ ns)) c ∧ c ≤ ns.length ∧ ∀ b o, h0.get? b = some o → h'.get? b = some o
set_option maxHeartbeats 3200000 in
theorem set_of_list {l : Addr} {its : Array Value} (ns : List Int) {Q : Value → Shared → Prop} (hh : A.handled = none) (hl : s.heap.IsList l its) (hi : IntsAre its.toList ns) (hb : ns.length + 1 < scanBound)
    (q : ∀ (h' : Heap) (tk c : Nat), GotS w s.heap h' ns c → Q (.ref s.heap.objs.size) { s with heap := h', toks := tk }) : wpAny (model P w) A (call (.type "set") [.ref l]) Q E s := by
  have hn : its.size = ns.length := by
    have z := hi.length
    rwa [Array.length_toList] at z
  have k1 := F.called_set.made
  have k2 := F.called_set.sub
  obtain ⟨c0, tl0, k3⟩ := F.called_set.mro
  refine wpAny_call (codeAny_of_tree (show wpAny _ _ (callAny (.type "set") _) _ _ _ from ?_))
  refine wpAny_pure ⟨Code.quiet_builtin _ (by decide +kernel), codeAny_builtin F.entry_type_call (by
    rw [Around.under_plain (weight_type_call_type "set" [.ref l] []) rfl]
    have k4 := F.called_set.canCreate
    have k5 := F.called_set.notType
    have k6 := F.typeCall_set_1 (.ref l)
    repeat (any_goals (first | assumption | wp_step))
    refine codeAny_mono (code_set_led1 (.ref l) (E := E) (Q₁ := fun x s1 => x = .ref s.heap.objs.size ∧ s1 = { s with heap := s.heap.push (ob0 w) }) ⟨rfl, rfl⟩) fun r s1 hr => ?_
    cases r with
    | error _ => exact hr
    | ok fl =>
      cases fl with
      | ret x =>
        obtain ⟨rfl, rfl⟩ := hr
        have u1 : (s.heap.push (ob0 w)).get? s.heap.objs.size = some (ob0 w) := Heap.get?_push_size _ rfl
        have u2 : Shared.TypeIs { s with heap := s.heap.push (ob0 w) } (.ref s.heap.objs.size) "set" := ⟨_, u1, rfl⟩
        have u3 := F.called_set.init.bind (.ref s.heap.objs.size)
        have u4 := F.called_set.init.lookup
        repeat (any_goals (first | assumption | wp_step))
        refine codeAny_mono (codeAny_call_builtin (R := wants (fun r s2 => r = .none ∧ ∃ h' tk c, s2 = { s with heap := h', toks := tk } ∧ GotS w s.heap h' ns c) E) F.called_set.init.plain F.entry_set_init (check_set_init_1 u2 (by
          obtain ⟨ol, v1, v2, nl, v3⟩ := hl
          obtain ⟨oc, od, oa, osl⟩ := ol
          simp only at v2 v3
          subst v2 v3
          have v4 : (s.heap.push (ob0 w)).get? l = some { cls := .type "list", dict := od, data := .seq its nl, slots := osl } := Heap.get?_push_of_some _ v1
          have v5 : (s.heap.push (ob0 w)).IsList l its := ⟨_, v4, rfl, nl, rfl⟩
          have v6 : (Value.type "list" == Value.type "dict") = false := by decide
          have v7 := F.sub_list_set
          have v8 := F.sub_list_frozenset
          unfold Builtin.«set.__init__» noKeywords Builtin.Frozenset.updateFrom
          generalize hPI : pyIter = PI
          wp_walk
          subst hPI
          have v9 : l < s.heap.objs.size := Heap.lt_size v1
          refine wpAny_pyIter_list v5 (wpAny_bind (wpAny_runValue ?_))
          have vh : A.in1.in1.in1.handled = none := by simp [hh]
          have vn : l ≠ (s.heap.push (ob0 w)).objs.size := by rw [Heap.size_push]; exact Nat.ne_of_lt (Nat.lt_succ_of_lt v9)
          have vf : s.heap.objs.size ∉ [(s.heap.push (ob0 w)).objs.size, l] := fun z => by
            rw [Heap.size_push] at z
            rcases List.mem_cons.mp z with z | z
            · exact Nat.ne_of_lt (Nat.lt_succ_self _) z
            · exact Nat.ne_of_gt v9 (List.mem_singleton.mp z)
          have vv : ∀ (i : Nat) (v : Value), its[i]? = some v → ∃ k t, ns[i]? = some k ∧ v = .int k t := fun i v hv => by
            have hj : i < ns.length := hn ▸ (Array.getElem?_eq_some_iff.mp hv).1
            obtain ⟨t, e⟩ := PyProof.Rows.IntsAre.int_at hi i v (by rw [Array.getElem?_toList]; exact hv)
            rw [List.getD_eq_getElem?_getD, List.getElem?_eq_getElem hj] at e
            exact ⟨ns[i], t, List.getElem?_eq_getElem hj, e⟩
          refine set_update_ints ((Walks.list vh _ l vn its).toS) s.heap.objs.size vf ns hn hb vv (its.size - 0) 0 _ (by omega) (Nat.zero_le _) ⟨⟨_, Heap.get?_push_size _ rfl, rfl, rfl⟩, v5.push _⟩ ⟨0, Nat.le_refl 0, setR_new_at (Heap.get?_push_of_some _ u1)⟩ fun s3 c3 mv hc3 R3 => ?_
          obtain ⟨h3, g3, d3, t3, o3⟩ := s3
          obtain rfl : g3 = s.gens := mv.gens
          obtain rfl : d3 = s.drawn := mv.drawn
          obtain rfl : o3 = s.os := mv.os
          refine (show wpAny _ _ _ _ _ _ from wpAny_pure (show wpAny _ _ (ret Value.none) _ _ _ from wpAny_pure ⟨rfl, h3, t3, c3, rfl, R3, hn ▸ hc3, fun b o e => ?_⟩))
          have w0 : b < s.heap.objs.size := Heap.lt_size e
          refine mv.heap b o (fun z => ?_) (Heap.get?_push_of_some _ (Heap.get?_push_of_some _ e))
          rcases List.mem_cons.mp z with z | z
          · exact Nat.ne_of_lt w0 z
          · rw [List.mem_singleton.mp z, Heap.size_push] at w0
            exact absurd w0 (Nat.not_lt_of_le (Nat.le_succ _))))) fun r2 s2 hr2 => ?_
        cases r2 with
        | error _ => exact hr2
        | ok fl2 =>
          cases fl2 with
          | ret r =>
            obtain ⟨rfl, h', tk, c, rfl, hg⟩ := hr2
            repeat (any_goals (first | assumption | wp_step))
            exact q _ _ _ hg
          | _ => exact hr2.elim
      | _ => exact hr.elim)⟩
end
end Pv
set_option Elab.async false
set_option linter.all false
set_option maxRecDepth 100000
set_option maxHeartbeats 4000000
set_option autoImplicit false
namespace Pv
open PySem PySem.Spec PyProof.Rows L2
section
variable {X : Cx}
/-- set(xs), xs a list of ints -/
def rSetOfI (K : PySem.W.Frag) (w : World) : List V → Hp → VK → Prop := fun vs H Q => ∃ (l : Addr) (ns : List Int), vs = [V.ref l] ∧ SqL K H l (ns.map V.int) ∧ ns.length < 64 ∧
  ∀ a c, H a = none → c ≤ ns.length → Q (.ref a) (upd H a (SetO w a (fun j => decide (j ∈ ns)) c))
theorem cr_setOfI (hc : X.calm = true) : CallR X (.type "set") (rSetOfI X.K X.w) := by
  intro pins s σ H vs us Q I r ⟨l, ns, e, hl, hn, q⟩
  subst e
  rw [Vals.ref1 r]
  obtain ⟨its, rv, pl, hz⟩ := I.list hl
  refine set_of_list (P := X.prog) (w := X.w) ns (I.ok.hd hc) pl.isList (show IntsAre its.toArray.toList ns from ints_of_vals rv) (by unfold scanBound; omega) fun h' tk c ⟨R, hcn, k⟩ => ?_
  have free : H s.heap.objs.size = none := I.hok.fresh (Nat.le_refl _)
  exact ⟨.ref s.heap.objs.size, _, I.laid (t' := tk) k (Nat.le_refl _) (setO_new R), rfl, q _ c free hcn⟩
end
def insU (x : Int) : List Int → List Int
  | [] => [x]
  | y :: l => if x < y then x :: y :: l else if x = y then y :: l else y :: insU x l
def sortU : List Int → List Int
  | [] => []
  | x :: l => insU x (sortU l)
theorem mem_insU {x k : Int} : ∀ {l : List Int}, k ∈ insU x l ↔ k = x ∨ k ∈ l
  | [] => by unfold insU; simp
  | y :: l => by
    unfold insU
    split
    · simp
    · split
      · rename_i h; subst h; simp
      · rw [List.mem_cons, mem_insU (l := l), List.mem_cons]
        constructor
        · rintro (h | h | h)
          · exact .inr (.inl h)
          · exact .inl h
          · exact .inr (.inr h)
        · rintro (h | h | h)
          · exact .inr (.inl h)
          · exact .inl h
          · exact .inr (.inr h)
theorem mem_sortU {k : Int} : ∀ {l : List Int}, k ∈ sortU l ↔ k ∈ l
  | [] => Iff.rfl
  | x :: l => by
    show k ∈ insU x (sortU l) ↔ _
    rw [mem_insU, mem_sortU (l := l), List.mem_cons]
theorem insU_up {x : Int} : ∀ {l : List Int}, l.Pairwise (· < ·) → (insU x l).Pairwise (· < ·)
  | [], _ => by unfold insU; simp
  | y :: l, h => by
    obtain ⟨h1, h2⟩ := List.pairwise_cons.mp h
    unfold insU
    split
    · rename_i hx
      refine List.pairwise_cons.mpr ⟨fun z hz => ?_, h⟩
      rcases List.mem_cons.mp hz with rfl | hz
      · exact hx
      · exact Int.lt_trans hx (h1 z hz)
    · split
      · exact h
      · refine List.pairwise_cons.mpr ⟨fun z hz => ?_, insU_up h2⟩
        rcases mem_insU.mp hz with rfl | hz
        · omega
        · exact h1 z hz
theorem sortU_up : ∀ l : List Int, (sortU l).Pairwise (· < ·)
  | [] => .nil
  | _ :: l => insU_up (sortU_up l)
theorem up_eq : ∀ {l m : List Int}, l.Pairwise (· < ·) → m.Pairwise (· < ·) → (∀ k, k ∈ l ↔ k ∈ m) → l = m
  | [], [], _, _, _ => rfl
  | [], y :: m, _, _, h => absurd ((h y).mpr List.mem_cons_self) List.not_mem_nil
  | x :: l, [], _, _, h => absurd ((h x).mp List.mem_cons_self) List.not_mem_nil
  | x :: l, y :: m, hl, hm, h => by
    obtain ⟨h1, h2⟩ := List.pairwise_cons.mp hl
    obtain ⟨h3, h4⟩ := List.pairwise_cons.mp hm
    have e : x = y := by
      rcases List.mem_cons.mp ((h x).mp List.mem_cons_self) with e | e
      · exact e
      · rcases List.mem_cons.mp ((h y).mpr List.mem_cons_self) with e2 | e2
        · exact e2.symm
        · have a1 := h3 x e
          have a2 := h1 y e2
          omega
    subst e
    rw [up_eq h2 h4 fun k => ?_]
    constructor
    · intro hk
      rcases List.mem_cons.mp ((h k).mp (List.mem_cons_of_mem _ hk)) with e | e
      · have := h1 k hk; omega
      · exact e
    · intro hk
      rcases List.mem_cons.mp ((h k).mpr (List.mem_cons_of_mem _ hk)) with e | e
      · have := h3 k hk; omega
      · exact e
def ssD : D → Option D
  | .lst ds => (asInts ds).bind fun ns => if ns.length < 64 then some (.lst ((sortU ns).map D.int)) else none
  | _ => none
section
variable {Γ : Gam} {N : List Str} {sc : Scope} {κ1 : Kd}
theorem d_sortset {ea : Expr} {a : Env → Option D} {p p2 q pos : Pos} (hg : glB sc "sorted" = true) (hm : Γ.mg "sorted" = none) (hg2 : glB sc "set" = true) (hm2 : Γ.mg "set" = none) (ha : DV Γ N sc κ1 ea a)
    (hs : Pl1 ea [] := by exact fun _ => rfl) (hs2 : Pl1 (.Call (.Name "set" p2) [ea] [] q) [] := by exact fun _ => rfl) : DV Γ N sc .f (.Call (.Name "sorted" p) [.Call (.Name "set" p2) [ea] [] q] [] pos) (f1 ssD a) := by
  obtain ⟨ta, pa, sa⟩ := ha.ex
  refine ⟨tCB (rSortedSet Γ.w) (tCons (tCB (rSetOfI Γ.K Γ.w) (tCons ta tNil)) tNil), fun X gX => ?_, fun H0 ρ σ G H Q z s E e q => ?_⟩
  · refine pe_callB (by rw [← gX.w]; exact cr_sortedSet gX.calm) (gl_of gX hg) (by rw [gX.mg]; exact hm) (by decide +kernel) (pa_cons ?_ pa_nil (hs2 _)) (by decide) (by decide) (hs2 _) rfl
    exact pe_callTy (by rw [← gX.w, ← gX.K]; exact cr_setOfI gX.calm) (gl_of gX hg2) (by rw [gX.mg]; exact hm2) PyProof.Rows.boot_set (pa_cons (pa X gX) pa_nil (hs _)) (by decide) (by decide) (hs _) rfl
  · unfold f1 at e
    cases ea : a ρ with
    | none => rw [ea] at e; cases e
    | some x =>
      rw [ea] at e
      cases x <;> try cases e
      rename_i ds
      have e : ((asInts ds).bind fun ns => if ns.length < 64 then some (D.lst ((sortU ns).map D.int)) else none) = some z := e
      cases ei : asInts ds with
      | none => rw [ei] at e; cases e
      | some ns =>
        rw [ei, Option.bind_some] at e
        split at e
        · rename_i h64
          cases e
          refine sa H0 ρ σ G H _ _ s E ea fun G1 H1 v g1 o1 => ?_
          obtain ⟨l, rfl, h1⟩ := lst_ints g1.s o1.b ei
          refine ⟨l, ns, rfl, SqL.of h1, h64, fun b c hb hc => ?_⟩
          refine ⟨b, _, c, rfl, upd_same, by omega, fun ms p' hp1 hp2 hp3 hp4 => ?_⟩
          have es : ms = sortU ns := up_eq hp1 (sortU_up ns) fun k => by rw [hp2, mem_sortU]; simp
          rw [es]
          have g2 := g1.trans (Grow.newH (o := SetO Γ.w b (fun j => decide (j ∈ ns)) c) g1.s hb)
          exact q _ _ _ (g2.trans (Grow.newH g2.s hp4)) ⟨p', rfl, SL.free g2.h hp4, g2.s.free hp4, _, upd_same, RepL.ints _⟩
        · cases e
end
end Pv
set_option Elab.async false
set_option linter.all false
set_option maxRecDepth 100000
set_option maxHeartbeats 4000000
set_option autoImplicit false
namespace Pv
open PySem PySem.Spec PyProof.Rows L2
/-! ### a class's __init__ that lays a dict and fills it in two loops -/
section
variable {Γ : Gam} {N : List Str} {sc : Scope} {G H G' H' : Hp} {α : Type}
def nxE : Option Res → Option Env
  | some (.nx ρ) => some ρ
  | _ => none
theorem nxE_eq {r : Option Res} {ρ : Env} (h : nxE r = some ρ) : r = some (.nx ρ) := by
  unfold nxE at h
  split at h
  · cases h; rfl
  · cases h
def NoOw (ρ : Env) : Prop := ∀ (i : Nat) (d : D), ρ[i]? ≠ some (Sl.ow d)
def unOw : Sl → Sl
  | .ow _ => .no
  | s => s
theorem unOw_no (ρ : Env) : NoOw (ρ.map unOw) := fun i d h => by
  rw [List.getElem?_map] at h
  cases e : ρ[i]? with
  | none => rw [e] at h; cases h
  | some s => rw [e] at h; cases s <;> cases h
theorem NoOw.set {ρ : Env} (h : NoOw ρ) (i : Nat) (d : D) : NoOw (ρ.set i (.sh d)) := fun j e q => by
  by_cases hj : i = j
  · subst hj
    by_cases hl : i < ρ.length
    · rw [List.getElem?_set_self hl] at q; cases q
    · rw [List.getElem?_eq_none (by simpa using hl)] at q; cases q
  · rw [List.getElem?_set_ne hj] at q
    exact h j e q
theorem NoOw.setE : ∀ (is : List Nat) (ds : List D) {ρ : Env}, NoOw ρ → NoOw (setE ρ is ds)
  | [], _, _, h => h
  | _ :: _, [], _, h => h
  | i :: is, d :: ds, _, h => NoOw.setE is ds (h.set i d)
theorem NoOw.bind {p : Pat} {d : D} {ρ ρ' : Env} (h : NoOw ρ) (e : bindP p d ρ = some ρ') : NoOw ρ' := by
  unfold bindP at e
  split at e
  · cases e; exact h.set _ _
  · split at e
    · cases e; exact h.setE _ _
    · cases e
  · cases e
theorem EnvOk.un {H0 : Hp} {ρ : Env} {σ : L2.St} (E : EnvOk Γ H0 G H ρ σ) (s : SL G G') : EnvOk Γ H0 G' H' (ρ.map unOw) σ := by
  refine ⟨by rw [List.length_map]; exact E.len, fun i t h => ?_, fun i j d e a _ h _ _ => absurd h (unOw_no ρ i d)⟩
  rw [List.getElem?_map] at h
  cases e : ρ[i]? with
  | none => rw [e] at h; cases h
  | some u =>
    rw [e] at h
    cases h
    cases u with
    | no => trivial
    | ow d => trivial
    | sh d => obtain ⟨v, h1, h2⟩ := E.sl i _ e; exact ⟨v, h1, h2.mono s⟩
theorem EnvOk.noH {H0 : Hp} {ρ : Env} {σ : L2.St} (E : EnvOk Γ H0 G H ρ σ) (n : NoOw ρ) : EnvOk Γ H0 G H' ρ σ :=
  ⟨E.len, fun i s h => by
    have := E.sl i s h
    cases s with
    | no => trivial
    | sh d => exact this
    | ow d => exact absurd h (n i d), E.ne⟩
theorem EnvOk.at0 {H0 : Hp} {ρ : Env} {σ : L2.St} {v : V} {d : D} (E : EnvOk Γ H0 G H ρ σ) (n : NoOw ρ) (h0 : σ[0]? = some (some v)) (r : Rep Γ.K Γ.C G v d) : EnvOk Γ H0 G H (ρ.set 0 (.sh d)) σ := by
  refine ⟨by rw [List.length_set]; exact E.len, fun i s h => ?_, fun i j e f a _ h _ _ => absurd h (n.set 0 d i e)⟩
  by_cases hi : i = 0
  · subst hi
    by_cases hl : 0 < ρ.length
    · rw [List.getElem?_set_self hl] at h; cases h; exact ⟨v, h0, r⟩
    · rw [List.getElem?_eq_none (by simpa using hl)] at h; cases h
  · rw [List.getElem?_set_ne (Ne.symm hi)] at h
    exact E.sl i s h
theorem EnvOk.updX {H0 : Hp} {ρ : Env} {σ : L2.St} {x c dx : Addr} {fs : List (Str × V)} {o : HO} (E : EnvOk Γ H0 G H ρ σ) (hx : H x = some (.ins c dx fs)) : EnvOk Γ H0 G (L2.upd H x o) ρ σ := by
  refine ⟨E.len, fun i s h => ?_, E.ne⟩
  have h2 := E.sl i s h
  cases s with
  | no => trivial
  | sh d => exact h2
  | ow d =>
    obtain ⟨a, h3, h4, h5, h6⟩ := h2
    refine ⟨a, h3, h4, h5, ?_⟩
    have ne : ∀ o', H a = some o' → (∀ c dx fs, o' ≠ .ins c dx fs) → a ≠ x := fun o' e1 e2 e3 => by
      subst e3
      rw [hx] at e1
      cases e1
      exact e2 _ _ _ rfl
    cases d <;> try exact h6.elim
    · obtain ⟨vs, k1, k2⟩ := h6
      exact ⟨vs, by rw [upd_ne (ne _ k1 fun _ _ _ z => by cases z)]; exact k1, k2⟩
    · obtain ⟨kvs, k1, k2⟩ := h6
      exact ⟨kvs, by rw [upd_ne (ne _ k1 fun _ _ _ z => by cases z)]; exact k1, k2⟩
    · obtain ⟨kvs, k1, k2⟩ := h6
      exact ⟨kvs, by rw [upd_ne (ne _ k1 fun _ _ _ z => by cases z)]; exact k1, k2⟩
theorem Grow.keepO {a : Addr} {o : HO} (g : Grow G H G' H') (h : H a = some o) (h0 : G a = none) (ht : ∀ vs, o ≠ .tup vs) : G' a = none := by
  by_cases q : G' a = none
  · exact q
  · rcases g.n a h0 q with e | ⟨ws, e⟩
    · rw [h] at e; cases e
    · rw [h] at e; cases e; exact absurd rfl (ht ws)
theorem setL_0 : ∀ {is : List Nat} {vs : List V} {σ : L2.St}, 0 ∉ is → (setL σ is vs)[0]? = σ[0]?
  | [], _, _, _ => rfl
  | _ :: _, [], _, _ => rfl
  | i :: is, v :: vs, σ, h => by
    show (setL (σ.set i (some v)) is vs)[0]? = _
    rw [setL_0 fun z => h (List.mem_cons_of_mem _ z), List.getElem?_set_ne fun z => h (by rw [z]; exact List.mem_cons_self)]
def forGo (p : Pat) (step : α → Env → Option (α × Env)) : List D → α → Env → Option (α × Env)
  | [], a, ρ => some (a, ρ)
  | x :: xs, a, ρ => (bindP p x ρ).bind fun ρ1 => (step a ρ1).bind fun z => forGo p step xs z.1 z.2
def forX (I : Env → Option (List D)) (p : Pat) (step : α → Env → Option (α × Env)) : α → Env → Option (α × Env) := fun a ρ => (I ρ).bind fun items => forGo p step items a ρ
def SemX (Γ : Gam) (H0 : Hp) (vx : V) (X : α → Hp → Hp → Prop) (t : TS) (step : α → Env → Option (α × Env)) : Prop :=
  ∀ (a : α) (ρ : Env) (σ : L2.St) (G H : Hp) (De : Ends) (a' : α) (ρ' : Env), SL G H → EnvOk Γ H0 G H ρ σ → NoOw ρ → σ[0]? = some (some vx) → X a G H → step a ρ = some (a', ρ') →
    (∀ (G' H' : Hp) (σ' : L2.St), SL G' H' → SL G G' → EnvOk Γ H0 G' H' ρ' σ' → NoOw ρ' → σ'[0]? = some (some vx) → X a' G' H' → De.nx σ' H') → t De σ H
theorem sem_forX {H0 : Hp} {vx : V} {X : α → Hp → Hp → Prop} {wi : TI} {I : Env → Option (List D)} {gt : TG} {p : Pat} {tb : TS} {step : α → Env → Option (α × Env)} (hX : ∀ a G H G' H', X a G H → Grow G H G' H' → X a G' H')
    (si : SemI Γ wi I) (sg : SemG Γ gt p) (h0 : 0 ∉ p.is) (sb : SemX Γ H0 vx X tb step) : SemX Γ H0 vx X (tFor wi gt tb) (forX I p step) := by
  intro a ρ σ G H De a' ρ' s E no hσ xa e q
  unfold forX at e
  cases ei : I ρ with
  | none => rw [ei] at e; cases e
  | some items =>
    rw [ei] at e
    have e : forGo p step items a ρ = some (a', ρ') := e
    refine si H0 ρ σ G H _ items s E ei fun J Gp Y G1 H1 g1 wk hGp hY => ?_
    refine for_it wk (fun i σ' H' => ∃ G' ρ1 a1, SL G' H' ∧ SL G1 G' ∧ EnvOk Γ H0 G' H' ρ1 σ' ∧ NoOw ρ1 ∧ σ'[0]? = some (some vx) ∧ X a1 G' H' ∧ forGo p step (items.drop i) a1 ρ1 = some (a', ρ'))
      ⟨G1, ρ, a, g1.s, SL.refl _, E.grow g1, no, hσ, hX _ _ _ _ _ xa g1, by rw [List.drop_zero]; exact e⟩ (fun i σ' H' _ h => ?_) (fun i x σ2 H2 H3 hlt h y => ?_) fun σ' H' h => ?_
    · obtain ⟨G', _, _, s1, s2, _⟩ := h
      exact hGp G' H' s2 s1
    · obtain ⟨G2, ρ2, a2, s2, t2, E2, no2, hσ2, x2, h2⟩ := h
      obtain ⟨G3, d, hd, g3, r3⟩ := hY i H2 x H3 G2 hlt t2 s2 y
      have hdrop : items.drop i = d :: items.drop (i + 1) := by
        obtain ⟨hl, e1⟩ := List.getElem?_eq_some_iff.mp hd
        rw [List.drop_eq_getElem_cons hl, e1]
      rw [hdrop] at h2
      have h2 : ((bindP p d ρ2).bind fun ρ1 => (step a2 ρ1).bind fun z => forGo p step (items.drop (i + 1)) z.1 z.2) = some (a', ρ') := h2
      cases eb : bindP p d ρ2 with
      | none => rw [eb] at h2; cases h2
      | some ρ3 =>
        simp only [eb, Option.bind_some] at h2
        cases er : step a2 ρ3 with
        | none => rw [er] at h2; cases h2
        | some z =>
          simp only [er, Option.bind_some] at h2
          refine sg H0 ρ2 ρ3 σ2 G3 H3 x d _ g3.s (E2.grow g3) eb r3 fun vs E3 => ?_
          refine sb a2 ρ3 _ G3 H3 _ z.1 z.2 g3.s E3 (no2.bind eb) (by rw [setL_0 h0]; exact hσ2) (hX _ _ _ _ _ x2 g3) er fun G4 H4 σ4 s4 t4 E4 no4 hσ4 x4 => ?_
          exact ⟨G4, z.2, z.1, s4, (t2.trans g3.g).trans t4, E4, no4, hσ4, x4, h2⟩
    · obtain ⟨G2, ρ2, a2, s2, t2, E2, no2, hσ2, x2, h2⟩ := h
      rw [List.drop_length] at h2
      cases h2
      exact q G2 H' σ' s2 (g1.g.trans t2) E2 no2 hσ2 x2
def putX (K V : Env → Option D) : List (List Int × D) → Env → Option (List (List Int × D) × Env) := fun kds ρ => (V ρ).bind fun v => (K ρ).bind fun kd => match kd with
  | .tup ks => (asInts ks).bind fun ns => if kds.length < big then some (putD kds ns v, ρ) else none
  | _ => none
def NetX (Γ : Gam) (Gb Hb : Hp) (x y dx : Addr) (v1 v2 : V) : List (List Int × D) → Hp → Hp → Prop := fun kds G H => Grow Gb Hb G H ∧ G x = some (.ins Γ.C dx [("fars", v1), ("turns", v2), ("inside", .ref y)]) ∧ G y = none ∧
  ∃ kvs, H y = some (.dT kvs) ∧ kvs.map Prod.fst = kds.map (fun p => kk p.1) ∧ RepL Γ.K Γ.C G (kvs.map Prod.snd) (kds.map Prod.snd)
theorem NetX.grow {Gb Hb : Hp} {x y dx : Addr} {v1 v2 : V} (kds : List (List Int × D)) (G H G' H' : Hp) (h : NetX Γ Gb Hb x y dx v1 v2 kds G H) (g : Grow G H G' H') : NetX Γ Gb Hb x y dx v1 v2 kds G' H' := by
  obtain ⟨h1, h2, h3, kvs, h4, h5, h6⟩ := h
  exact ⟨h1.trans g, g.g.ins h2, g.keepO h4 h3 (fun _ z => by cases z), kvs, g.x _ _ h3 h4, h5, h6.mono g.g⟩
theorem sem_putX {Gb Hb H0 : Hp} {x y dx : Addr} {v1 v2 : V} (C : NetC Γ) (hy : Hb y = none) {K V : Env → Option D} {tk tv : TE} (sk : SemV Γ .e tk K) (sv : SemV Γ .e tv V) :
    SemX Γ H0 (.ref x) (NetX Γ Gb Hb x y dx v1 v2) (sDPut (tFld Γ.K (tVar 0) "inside") tk tv) (putX K V) := by
  intro kds ρ σ G H De kds' ρ' s E no hσ xa e q
  obtain ⟨h1, h2, h3, kvs, h4, h5, h6⟩ := xa
  unfold putX at e
  cases ea : V ρ with
  | none => rw [ea] at e; cases e
  | some d =>
    cases ek : K ρ with
    | none => simp only [ea, ek, Option.bind_some] at e; cases e
    | some kd =>
      simp only [ea, ek, Option.bind_some] at e
      split at e
      · rename_i ks
        cases en : asInts ks with
        | none => rw [en] at e; cases e
        | some ns =>
          simp only [en, Option.bind_some] at e
          split at e
          · rename_i hl
            cases e
            refine sv H0 ρ σ G H _ d s E ea fun G1 H1 v g1 o1 => ?_
            refine ⟨.ref x, hσ, x, Γ.C, dx, _, .ref y, rfl, g1.s.ins (g1.g.ins h2), C.cl, C.ni, look_i, ?_⟩
            refine sk H0 ρ σ G1 H1 _ _ g1.s (E.grow g1) ek fun G2 H2 w g2 o2 => ?_
            have o2 : Rep Γ.K Γ.C G2 w (.tup ks) := o2
            cases o2 with
            | tup h7 h8 =>
              rw [asInts_eq en] at h8
              have e8 := kk_tup h8
              subst e8
              have g12 := g1.trans g2
              have h4' : H2 y = some (.dT kvs) := g12.x _ _ h3 h4
              have h3' : G2 y = none := g12.keepO h4 h3 (fun _ z => by cases z)
              have hlen : kvs.length = kds.length := by simpa using congrArg List.length h5
              obtain ⟨m1, m2⟩ := putK_map (ns := ns) h5 (h6.mono g12.g) (Rep.mono g2.g o1)
              refine ⟨y, _, rfl, .inr ⟨kvs, kk ns, _, h4', rfl, g2.s.tup h7, by rw [hlen]; exact big_lt hl, rfl⟩, ?_⟩
              have gg := (h1.trans g12).updH (o := .dT (putK kvs (kk ns) v)) h3' hy
              exact q G2 _ σ gg.s g12.g ((E.grow g12).noH no) no hσ ⟨gg, g12.g.ins h2, h3', _, upd_same, m1, m2⟩
          · cases e
      · cases e
def adrB (ρ : Env) (x : Addr) : Bool := match ρ[0]? with
  | some (Sl.sh (D.adr y)) => y == x
  | _ => false
abbrev netN : List Str := ["self", "sheet", "fars", "turns", "inner", "outer", "begin", "wide", "k", "n"]
def netF (F1 F2 F3 : Env → Option Res) (Ef Et : Env → Option D) (Ik : Env → Option (List D)) (pk : Pat) (In : Env → Option (List D)) (pn : Pat) (Kf Vf : Env → Option D) (x : Addr) (d : D) : Option D :=
  (nxE (F1 [.sh (.adr x), .sh d, .no, .no, .no, .no, .no, .no, .no, .no])).bind fun ρ1 => (nxE (F2 ρ1)).bind fun ρ2 => (nxE (F3 ρ2)).bind fun ρ3 => if adrB ρ3 x = true then (Ef ρ3).bind fun f => (Et ρ3).bind fun t =>
    (forX Ik pk (forX In pn (putX Kf Vf)) [] ((ρ3.map unOw).set 0 (.sh (.net f t .non)))).bind fun z => some (.net f t (.dct z.1)) else none
/-- what does not lean on where the net lies -/
noncomputable def anyX (F : Addr → D → Option D) (d : D) : Option D := @ite _ (∀ x, F x d = F 0 d) (Classical.propDecidable _) (F 0 d) none
theorem anyX_e {F : Addr → D → Option D} {d n : D} (h : anyX F d = some n) (x : Addr) : F x d = some n := by
  unfold anyX at h
  split at h
  · rename_i k; rw [k x]; exact h
  · cases h
theorem anyX_i {F : Addr → D → Option D} {d n : D} (h : ∀ x, F x d = some n) : anyX F d = some n := by
  unfold anyX
  rw [if_pos fun x => by rw [h, h]]; exact h 0
end
end Pv
set_option Elab.async false
set_option linter.all false
set_option maxRecDepth 100000
set_option maxHeartbeats 4000000
set_option autoImplicit false
namespace Pv
open PySem PySem.Spec PyProof.Rows L2
section
variable {Γ : Gam} {G H G' H' : Hp}
theorem start_net (x : Addr) (v : V) : L2.start netN [.ref x, v] = [some (.ref x), some v, none, none, none, none, none, none, none, none] := rfl
theorem env_net {H0 : Hp} {x : Addr} {v : V} {d : D} (r : Rep Γ.K Γ.C G v d) : EnvOk Γ H0 G H [.sh (.adr x), .sh d, .no, .no, .no, .no, .no, .no, .no, .no] (L2.start netN [.ref x, v]) := by
  rw [start_net]
  refine ⟨rfl, fun i s h => ?_, fun i j e f a _ h _ _ => ?_⟩
  · match i, h with
    | 0, h => cases h; exact ⟨_, rfl, .adr x⟩
    | 1, h => cases h; exact ⟨_, rfl, r⟩
    | 2, h => cases h; trivial
    | 3, h => cases h; trivial
    | 4, h => cases h; trivial
    | 5, h => cases h; trivial
    | 6, h => cases h; trivial
    | 7, h => cases h; trivial
    | 8, h => cases h; trivial
    | 9, h => cases h; trivial
  · have := List.mem_of_getElem? h
    simp at this
theorem net_init {k : Nat} {st : Stmt} {f : Addr} {fd : FuncData} {F1 F2 F3 : Env → Option Res} {s1 s2 s3 : Stmt} {ef et ek ev tgk itk tgn itn : Expr} {Ef Et Kf Vf : Env → Option D} {Ik In : Env → Option (List D)} {pk pn : Pat} {p1 p2 p3 p4 p5 p6 p7 p8 p9 p10 q1 q2 q3 q4 q5 q6 : Pos} {fN : D → Option D}
    (hc : ∀ d n, fN d = some n → ∀ x, netF F1 F2 F3 Ef Et Ik pk In pn Kf Vf x d = some n)
    (Fn : Fun Γ.K "__init__" "Net.__init__" st f fd) (S : FnScope netN ["self", "sheet"] (defScope st)) (C : NetC (Γ.at k))
    (hbody : defBody st = [s1, s2, s3, .Assign [.Attribute (.Name "self" p1) "fars" p2] ef p3, .Assign [.Attribute (.Name "self" p4) "turns" p5] et p6, .Assign [.Attribute (.Name "self" p7) "inside" p8] (.Dict [] [] p9) p10,
      .For tgk itk [.For tgn itn [.Assign [.Subscript (.Attribute (.Name "self" q1) "inside" q2) ek q3] ev q4] [] q5] [] q6])
    (hv : visB (defScope st) "self" = true)
    (h1 : DS (Γ.at k) netN (defScope st) s1 F1) (h2 : DS (Γ.at k) netN (defScope st) s2 F2) (h3 : DS (Γ.at k) netN (defScope st) s3 F3)
    (hf : DV (Γ.at k) netN (defScope st) .e ef Ef) (ht : DV (Γ.at k) netN (defScope st) .e et Et)
    (ik : DI (Γ.at k) netN (defScope st) tgk itk Ik) (gk : DG (Γ.at k) netN (defScope st) true tgk pk) (jn : DI (Γ.at k) netN (defScope st) tgn itn In) (gn : DG (Γ.at k) netN (defScope st) true tgn pn)
    (z1 : 0 ∉ pk.is) (z2 : 0 ∉ pn.is)
    (hk : DV (Γ.at k) netN (defScope st) .e ek Kf) (hw : DV (Γ.at k) netN (defScope st) .e ev Vf)
    (w1 : ∀ env : PySem.Env, swapsWith ef (some (.Attribute (.Name "self" p1) "fars" p2)) p3.line env = pure false := by exact fun _ => rfl)
    (w2 : ∀ env : PySem.Env, swapsWith et (some (.Attribute (.Name "self" p4) "turns" p5)) p6.line env = pure false := by exact fun _ => rfl)
    (w4 : ∀ env : PySem.Env, swapsWith ev (some (.Subscript (.Attribute (.Name "self" q1) "inside" q2) ek q3)) q4.line env = pure false := by exact fun _ => rfl)
    (w5 : ∀ (env : PySem.Env) x, foldedSetIterable itk env x = pure x := by exact fun _ _ => rfl)
    (w6 : ∀ (env : PySem.Env) x, foldedSetIterable itn env x = pure x := by exact fun _ _ => rfl) :
    FnOk Γ.P Γ.w Γ.K Γ.mg Γ.base CX0 (k + 1) f fd ["self", "sheet"] (spN Γ.K Γ.C fN) := by
  obtain ⟨t1, a1, b1⟩ := h1.ex
  obtain ⟨t2, a2, b2⟩ := h2.ex
  obtain ⟨t3, a3, b3⟩ := h3.ex
  obtain ⟨tf, af, bf⟩ := hf.ex
  obtain ⟨tt, at', bt⟩ := ht.ex
  obtain ⟨wk, aik, bik⟩ := ik.ex
  obtain ⟨gk', agk, bgk⟩ := gk.ex
  obtain ⟨wn, ain, bin⟩ := jn.ex
  obtain ⟨gn', agn, bgn⟩ := gn.ex
  obtain ⟨tk, ak, bk⟩ := hk.ex
  obtain ⟨tv', av, bv⟩ := hw.ex
  refine Fn.ok S (fun vs H Q E h => ?_) (fun cdv A outer s H vs Q E hr hsp => ?_)
  · obtain ⟨_, _, _, _, _, _, _, _, _, _, _, e, _⟩ := h
    rw [e]; rfl
  · obtain ⟨G, H1, x, dx, v, d, n, s, hx, hdx, hne, e1, e2, rv, e, q⟩ := hsp
    subst e1 e2
    refine ⟨tSeq t1 (tSeq t2 (tSeq t3 (tSeq (sFld Γ.K (tVar 0) tf "fars") (tSeq (sFld Γ.K (tVar 0) tt "turns") (tSeq (sFld Γ.K (tVar 0) tDNewT "inside") (tFor wk gk' (tFor wn gn' (sDPut (tFld Γ.K (tVar 0) "inside") tk tv')))))))), ?_, ?_⟩
    · rw [hbody]
      have good : ∀ {X : Cx}, Good (Γ.at k) netN (defScope st) X → (∀ x, X.fn x = true) → PSs X [s1, s2, s3, .Assign [.Attribute (.Name "self" p1) "fars" p2] ef p3, .Assign [.Attribute (.Name "self" p4) "turns" p5] et p6, .Assign [.Attribute (.Name "self" p7) "inside" p8] (.Dict [] [] p9) p10,
          .For tgk itk [.For tgn itn [.Assign [.Subscript (.Attribute (.Name "self" q1) "inside" q2) ek q3] ev q4] [] q5] [] q6] (tSeq t1 (tSeq t2 (tSeq t3 (tSeq (sFld Γ.K (tVar 0) tf "fars") (tSeq (sFld Γ.K (tVar 0) tt "turns") (tSeq (sFld Γ.K (tVar 0) tDNewT "inside") (tFor wk gk' (tFor wn gn' (sDPut (tFld Γ.K (tVar 0) "inside") tk tv'))))))))) := fun {X} g hfn => by
        have pv : ∀ p, PE X (.Name "self" p) (tVar 0) := fun p => pe_var (by rw [g.N]; rfl) (by rw [g.sc]; exact vis_of hv) (by decide) (by decide)
        have hK : X.K = Γ.K := g.K
        refine pss_cons (a1 X g hfn) (pss_cons (a2 X g hfn) (pss_cons (a3 X g hfn) (pss_cons (hK ▸ ps_fld (pv _) (af X g) (w1 _)) (pss_cons (hK ▸ ps_fld (pv _) (at' X g) (w2 _)) (pss_cons (hK ▸ ps_fld (pv _) pe_dnewT rfl) (pss_one ?_))))))
        refine ps_for (by rw [g.xe]; exact PassesOwn.never) g.calm (aik X g) (agk X g fun _ => hfn) (pss_one (ps_for (by rw [g.xe]; exact PassesOwn.never) g.calm (ain X g) (agn X g fun _ => hfn) (pss_one ?_) (w6 _))) (w5 _)
        exact hK ▸ ps_dput (hu_of g.room) (pe_fld (pv _) rfl) (ak X g) (av X g) (w4 _)
      exact good ⟨rfl, rfl, rfl, rfl, rfl, rfl, rfl, hr, rfl, rfl⟩ (fun _ => rfl)
    · have e' := hc d n e x
      unfold netF at e'
      obtain ⟨ρ1, f1, e'⟩ := Option.bind_eq_some_iff.mp e'
      obtain ⟨ρ2, f2, e'⟩ := Option.bind_eq_some_iff.mp e'
      obtain ⟨ρ3, f3, e'⟩ := Option.bind_eq_some_iff.mp e'
      split at e'
      · rename_i hadr
        obtain ⟨df, ff, e'⟩ := Option.bind_eq_some_iff.mp e'
        obtain ⟨dt, ft, e'⟩ := Option.bind_eq_some_iff.mp e'
        obtain ⟨z, fz, e'⟩ := Option.bind_eq_some_iff.mp e'
        cases e'
        have hne' : dx ≠ x := hne
        have g0 : Grow G H1 G (L2.upd (L2.upd H1 dx (.own x)) x (.ins Γ.C dx [])) := (Grow.newH s hdx).trans (Grow.newH (Grow.newH s hdx).s (by rw [upd_ne (Ne.symm hne')]; exact hx))
        generalize hH : L2.upd (L2.upd H1 dx (.own x)) x (.ins Γ.C dx []) = H0 at *
        have hX0 : H0 x = some (.ins Γ.C dx []) := by rw [← hH]; exact upd_same
        have nx0 : G x = none := s.free hx
        have nt : ∀ fs, ∀ vs, HO.ins Γ.C dx fs ≠ .tup vs := fun _ _ z => by cases z
        refine b1 G H0 _ _ G H0 _ _ (Grow.refl g0.s) (env_net (x := x) rv) (nxE_eq f1) (fun ρ1' G1 H1' σ1 er g1 _ E1 => ?_) fun d' _ _ _ er => by cases er
        cases er
        refine b2 G H0 _ _ G1 H1' _ _ g1 E1 (nxE_eq f2) (fun ρ2' G2 H2 σ2 er g2 _ E2 => ?_) fun d' _ _ _ er => by cases er
        cases er
        refine b3 G H0 _ _ G2 H2 _ _ g2 E2 (nxE_eq f3) (fun ρ3' G3 H3 σ3 er g3 _ E3 => ?_) fun d' _ _ _ er => by cases er
        cases er
        have hσ : σ3[0]? = some (some (.ref x)) := by
          unfold adrB at hadr
          split at hadr
          · rename_i y hy
            obtain ⟨u, h4, h5⟩ := E3.sl 0 _ hy
            rw [eq_of_beq hadr] at h5
            cases h5
            exact h4
          · cases hadr
        have nx3 : G3 x = none := g3.keepO hX0 nx0 (nt _)
        have hX3 : H3 x = some (.ins Γ.C dx []) := g3.x _ _ nx0 hX0
        refine bf H0 ρ3 σ3 G3 H3 _ df g3.s E3 ff fun G4 H4 v1 g4 o1 => ?_
        have nx4 : G4 x = none := g4.keepO hX3 nx3 (nt _)
        have hX4 := g4.x _ _ nx3 hX3
        have gB := (g0.trans g3).trans g4
        refine ⟨.ref x, hσ, x, Γ.C, dx, [], rfl, hX4, C.cl, C.nf, by decide, ?_⟩
        have g5 := gB.updH (o := .ins Γ.C dx [("fars", v1)]) nx4 hx
        have E5 : EnvOk (Γ.at k) H0 G4 (L2.upd H4 x (.ins Γ.C dx [("fars", v1)])) ρ3 σ3 := (E3.grow g4).updX hX4
        refine bt H0 ρ3 σ3 G4 _ _ dt g5.s E5 ft fun G6 H6 v2 g6 o2 => ?_
        have nx6 : G6 x = none := g6.keepO upd_same nx4 (nt _)
        have hX6 := g6.x _ _ nx4 upd_same
        refine ⟨.ref x, hσ, x, Γ.C, dx, [("fars", v1)], rfl, hX6, C.cl, C.nt, (show 1 < 1000 by decide), ?_⟩
        have g7 := (g5.trans g6).updH (o := .ins Γ.C dx [("fars", v1), ("turns", v2)]) nx6 hx
        show sFld Γ.K (tVar 0) tDNewT "inside" _ σ3 (L2.upd H6 x (.ins Γ.C dx [("fars", v1), ("turns", v2)]))
        intro y hy
        have hyx : y ≠ x := fun z => by rw [z, upd_same] at hy; cases hy
        have hX8 : L2.upd (L2.upd H6 x (.ins Γ.C dx [("fars", v1), ("turns", v2)])) y (.dT []) x = some (.ins Γ.C dx [("fars", v1), ("turns", v2)]) := by rw [upd_ne (Ne.symm hyx)]; exact upd_same
        refine ⟨.ref x, hσ, x, Γ.C, dx, [("fars", v1), ("turns", v2)], rfl, hX8, C.cl, C.ni, (show 2 < 1000 by decide), ?_⟩
        have hy1 : H1 y = none := SL.free g7.h hy
        have g8 := g7.trans (Grow.newH (o := .dT []) g7.s hy)
        have g9 := g8.updH (o := .ins Γ.C dx [("fars", v1), ("turns", v2), ("inside", .ref y)]) nx6 hx
        have g10 := Grow.share g9.s upd_same nx6 hx g9
        have s10 := SL.new (o := .ins Γ.C dx [("fars", v1), ("turns", v2), ("inside", .ref y)]) nx6
        have r1 : Rep Γ.K Γ.C (L2.upd G6 x (.ins Γ.C dx [("fars", v1), ("turns", v2), ("inside", .ref y)])) v1 df := Rep.mono (g6.g.trans s10) o1
        have r2 : Rep Γ.K Γ.C (L2.upd G6 x (.ins Γ.C dx [("fars", v1), ("turns", v2), ("inside", .ref y)])) v2 dt := Rep.mono s10 o2
        have sx := sem_forX (Γ := Γ.at k) (H0 := H0) (vx := .ref x) (X := NetX (Γ.at k) G H1 x y dx v1 v2) (fun a G H G' H' => NetX.grow a G H G' H') bik bgk z1 (sem_forX (fun a G H G' H' => NetX.grow a G H G' H') bin bgn z2 (sem_putX C hy1 bk bv))
        refine sx [] _ σ3 _ _ _ z.1 z.2 g10.s (((E5.grow g6).un s10).at0 (unOw_no _) hσ (.netP upd_same r1 r2)) ((unOw_no _).set 0 _) hσ ⟨g10, upd_same, by rw [upd_ne hyx]; exact g7.s.free hy, [], by rw [upd_ne hyx]; exact upd_same, rfl, .nil⟩ fz fun G' H' σ' s' t' E' no' hσ' x' => ?_
        obtain ⟨k1, k2, k3, kvs, k4, k5, k6⟩ := x'
        have sy := SL.new (o := .dT kvs) k3
        exact q _ H' (Grow.share k1.s k4 k3 hy1 k1) (.net (sy.ins k2) (r1.mono (t'.trans sy)) (r2.mono (t'.trans sy)) (.dct (.inl upd_same) k5 (k6.mono sy)))
      · cases e'
end
end Pv
set_option Elab.async false
set_option linter.all false
set_option maxRecDepth 100000
set_option maxHeartbeats 4000000
set_option autoImplicit false
namespace Pv
open PySem PySem.Spec PyProof.Rows L2
/-! ### own things, fields, the dict: rows -/
theorem sown_at {i : Nat} {a : Env → Option D} {ρ : Env} : sown i a ρ = (a ρ).bind fun d => some (.nx (ρ.set i (.ow d))) := (rfl)
def extAt (i : Nat) (d : D) (ρ : Env) : Option Res := match ρ[i]?, d with
  | some (.ow (.lst ds)), .lst es => if ds.length + es.length < big then some (.nx (ρ.set i (.ow (.lst (ds ++ es))))) else none
  | _, _ => none
def appAt (i : Nat) (d : D) (ρ : Env) : Option Res := match ρ[i]? with
  | some (.ow (.lst ds)) => if ds.length < big then some (.nx (ρ.set i (.ow (.lst (ds ++ [d]))))) else none
  | _ => none
def putAt (i : Nat) (d kd : D) (ρ : Env) : Option Res := match ρ[i]?, kd with
  | some (.ow (.lst ds)), .int n => (ixN ds.length n).bind fun j => some (.nx (ρ.set i (.ow (.lst (ds.set j d)))))
  | some (.ow (.dct kds)), .tup ks => (asInts ks).bind fun ns => if kds.length < big then some (.nx (ρ.set i (.ow (.dct (putD kds ns d))))) else none
  | _, _ => none
theorem sext_eq {i : Nat} {a : Env → Option D} {ρ : Env} : sext i a ρ = (a ρ).bind fun d => extAt i d ρ := (rfl)
theorem sapp_eq {i : Nat} {a : Env → Option D} {ρ : Env} : sapp i a ρ = (a ρ).bind fun d => appAt i d ρ := (rfl)
theorem sput_eq {i : Nat} {k a : Env → Option D} {ρ : Env} : sput i k a ρ = (a ρ).bind fun d => (k ρ).bind fun kd => putAt i d kd ρ := (rfl)
theorem extAt_l {i : Nat} {ρ : Env} {ds es : List D} (h : ρ[i]? = some (.ow (.lst ds))) (hl : ds.length + es.length < big) : extAt i (.lst es) ρ = some (.nx (ρ.set i (.ow (.lst (ds ++ es))))) := by
  unfold extAt
  rw [h]
  exact if_pos hl
theorem appAt_l {i : Nat} {ρ : Env} {ds : List D} {d : D} (h : ρ[i]? = some (.ow (.lst ds))) (hl : ds.length < big) : appAt i d ρ = some (.nx (ρ.set i (.ow (.lst (ds ++ [d]))))) := by
  unfold appAt
  rw [h]
  exact if_pos hl
theorem ixN_nat {n j : Nat} (h : j < n) : ixN n (j : Int) = some j := by unfold ixN; simp; omega
theorem putAt_l {i : Nat} {ρ : Env} {ds : List D} {d : D} {z : Int} (j : Nat) (h : ρ[i]? = some (.ow (.lst ds))) (hz : z = (j : Int)) (hj : j < ds.length) : putAt i d (.int z) ρ = some (.nx (ρ.set i (.ow (.lst (ds.set j d))))) := by
  subst hz
  unfold putAt
  rw [h]
  show ((ixN ds.length (j : Int)).bind _) = _
  rw [ixN_nat hj]
  rfl
theorem putAt_d {i : Nat} {ρ : Env} {kds : List (List Int × D)} {d : D} {ks : List D} {ns : List Int} (h : ρ[i]? = some (.ow (.dct kds))) (hk : ks = ns.map D.int) (hl : kds.length < big) : putAt i d (.tup ks) ρ = some (.nx (ρ.set i (.ow (.dct (putD kds ns d))))) := by
  subst hk
  unfold putAt
  rw [h]
  show ((asInts (ns.map D.int)).bind _) = _
  rw [asInts_map, Option.bind_some]
  exact if_pos hl
theorem nxE_nx {ρ : Env} : nxE (some (.nx ρ)) = some ρ := (rfl)
theorem nxP_pre {α : Type} {p : Pat} {b : Env → Option Res} (enc : α → D) (I : List α → Env → Prop) (xs : List α) (h : ∀ pre x post, xs = pre ++ x :: post → ∀ ρ, I pre ρ → ∃ ρ1, bindP p (enc x) ρ = some ρ1 ∧ nxP (b ρ1) (I (pre ++ [x]))) {ρ : Env} (h0 : I [] ρ) : nxP (forD p b (xs.map enc) ρ) (I xs) := by
  have go : ∀ (post pre : List α), xs = pre ++ post → ∀ ρ, I pre ρ → nxP (forD p b (post.map enc) ρ) (I xs) := by
    intro post
    induction post with
    | nil => intro pre hp ρ h1; rw [List.append_nil] at hp; subst hp; exact ⟨ρ, rfl, h1⟩
    | cons x post ih =>
      intro pre hp ρ h1
      obtain ⟨ρ1, e1, ρ2, e2, h2⟩ := h pre x post hp ρ h1
      obtain ⟨ρ3, e3, h3⟩ := ih (pre ++ [x]) (by rw [hp, List.append_assoc]; rfl) ρ2 h2
      refine ⟨ρ3, ?_, h3⟩
      rw [List.map_cons]
      unfold forD
      rw [e1, Option.bind_some, e2, Option.bind_some]
      exact e3
  exact go xs [] rfl ρ h0
theorem sfrz_ow {i : Nat} {f : Env → Option Res} {ρ : Env} {d : D} (h : ρ[i]? = some (.ow d)) : sfrz i f ρ = f (ρ.set i (.sh d)) := by
  unfold sfrz frzE
  rw [h]; rfl
theorem sfrz_sh {i : Nat} {f : Env → Option Res} {ρ : Env} {d : D} (h : ρ[i]? = some (.sh d)) : sfrz i f ρ = f ρ := by
  unfold sfrz frzE
  rw [h]; rfl
theorem farsD_n {f t i : D} : farsD (.net f t i) = some f := (rfl)
theorem turnsD_n {f t i : D} : turnsD (.net f t i) = some t := (rfl)
theorem insideD_n {f t : D} {kds : List (List Int × D)} : insideD (.net f t (.dct kds)) = some (.dct kds) := (rfl)
theorem fM_eq {f : List D → Option D} {o : Env → Option D} {a : Env → Option (List D)} {ρ : Env} : fM f o a ρ = (o ρ).bind fun x => (a ρ).bind fun ds => if netB x = true then f (x :: ds) else none := (rfl)
theorem netB_n {f t i : D} : netB (.net f t i) = true := (rfl)
theorem ssD_i {ns : List Int} (h : ns.length < 64) : ssD (.lst (ns.map D.int)) = some (.lst ((sortU ns).map D.int)) := by
  show (asInts (ns.map D.int)).bind _ = _
  rw [asInts_map, Option.bind_some]
  exact if_pos h
theorem ixI {ns : List Int} {k : Nat} {j : Int} (hj : j = (k : Int)) (h : k < ns.length) : ixD (.lst (ns.map D.int)) (.int j) = some (.int (ns.getD k 0)) := by
  subst hj
  refine atI_nat (xs := ns.map D.int) (j := k) ?_
  rw [List.getElem?_map, List.getElem?_eq_getElem h, List.getD_eq_getElem?_getD, List.getElem?_eq_getElem h]; rfl
theorem seqD_d {kds : List (List Int × D)} : seqD (.dct kds) = some (kds.map fun p => .tup (p.1.map D.int)) := (rfl)
theorem getK_mem {kds : List (List Int × D)} {k : List Int} {d : D} (h : ∃ p ∈ kds, p.1 = k) (h2 : ∀ p ∈ kds, p.1 = k → p.2 = d) : getK kds k = some d := by
  unfold getK
  cases e : kds.find? fun p => decide (p.1 = k) with
  | none =>
    obtain ⟨p, hp, hk⟩ := h
    have := List.find?_eq_none.mp e p hp
    simp [hk] at this
  | some p =>
    have h3 := List.find?_some e
    have h4 := List.mem_of_find?_eq_some e
    rw [Option.map_some, h2 p h4 (of_decide_eq_true h3)]
theorem putD_new {kds : List (List Int × D)} {k : List Int} {d : D} (h : ∀ p ∈ kds, p.1 ≠ k) : putD kds k d = kds ++ [(k, d)] := by
  unfold putD
  rw [if_neg]
  intro z
  first | (obtain ⟨p, hp, hk⟩ := List.any_eq_true.mp z; exact h p hp (of_decide_eq_true hk)) | (obtain ⟨p, hp⟩ := Option.isSome_iff_exists.mp z; have h3 := List.find?_some hp; exact h p (List.mem_of_find?_eq_some hp) (of_decide_eq_true h3))
theorem nxP_range {p : Pat} {b : Env → Option Res} (I : Nat → Env → Prop) (n : Nat) (h : ∀ j, j < n → ∀ ρ, I j ρ → ∃ ρ1, bindP p (.int (j : Int)) ρ = some ρ1 ∧ nxP (b ρ1) (I (j + 1))) {ρ : Env} (h0 : I 0 ρ) : nxP (forD p b ((List.range n).map fun j : Nat => .int (j : Int)) ρ) (I n) := by
  have go : ∀ (m i : Nat), i + m = n → ∀ ρ, I i ρ → nxP (forD p b ((List.range' i m).map fun j : Nat => .int (j : Int)) ρ) (I n) := by
    intro m
    induction m with
    | zero => intro i hi ρ h1; rw [Nat.add_zero] at hi; subst hi; exact ⟨ρ, rfl, h1⟩
    | succ m ih =>
      intro i hi ρ h1
      obtain ⟨ρ1, e1, ρ2, e2, h2⟩ := h i (by omega) ρ h1
      obtain ⟨ρ3, e3, h3⟩ := ih (i + 1) (by omega) ρ2 h2
      refine ⟨ρ3, ?_, h3⟩
      rw [List.range'_succ, List.map_cons]
      unfold forD
      rw [e1, Option.bind_some, e2, Option.bind_some]
      exact e3
  have := go n 0 (by omega) ρ h0
  rwa [← List.range_eq_range'] at this
theorem forGo_range {α : Type} {p : Pat} {step : α → Env → Option (α × Env)} (I : Nat → α → Env → Prop) (n : Nat) (h : ∀ j, j < n → ∀ a ρ, I j a ρ → ∃ ρ1 z, bindP p (.int (j : Int)) ρ = some ρ1 ∧ step a ρ1 = some z ∧ I (j + 1) z.1 z.2) {a : α} {ρ : Env} (h0 : I 0 a ρ) : ∃ z, forGo p step ((List.range n).map fun j : Nat => .int (j : Int)) a ρ = some z ∧ I n z.1 z.2 := by
  have go : ∀ (m i : Nat), i + m = n → ∀ a ρ, I i a ρ → ∃ z, forGo p step ((List.range' i m).map fun j : Nat => .int (j : Int)) a ρ = some z ∧ I n z.1 z.2 := by
    intro m
    induction m with
    | zero => intro i hi a ρ h1; rw [Nat.add_zero] at hi; subst hi; exact ⟨(a, ρ), rfl, h1⟩
    | succ m ih =>
      intro i hi a ρ h1
      obtain ⟨ρ1, z, e1, e2, h2⟩ := h i (by omega) a ρ h1
      obtain ⟨z3, e3, h3⟩ := ih (i + 1) (by omega) z.1 z.2 h2
      refine ⟨z3, ?_, h3⟩
      rw [List.range'_succ, List.map_cons]
      unfold forGo
      rw [e1, Option.bind_some, e2, Option.bind_some]
      exact e3
  have := go n 0 (by omega) a ρ h0
  rwa [← List.range_eq_range'] at this
/-- all cells of rows and columns -/
def grid {α : Type} (a b : Nat) (f : Nat → Nat → α) : List α := (List.range a).flatMap fun k => (List.range b).map (f k)
theorem grid_s {α : Type} {a b : Nat} {f : Nat → Nat → α} : grid (a + 1) b f = grid a b f ++ (List.range b).map (f a) := by
  unfold grid
  rw [List.range_succ, List.flatMap_append]
  simp
theorem grid_len {α : Type} {a b : Nat} {f : Nat → Nat → α} : (grid a b f).length = a * b := by
  induction a with
  | zero => simp [grid]
  | succ a ih => rw [grid_s, List.length_append, ih, List.length_map, List.length_range, Nat.succ_mul]
theorem mem_grid {α : Type} {a b : Nat} {f : Nat → Nat → α} {x : α} : x ∈ grid a b f ↔ ∃ k n, k < a ∧ n < b ∧ x = f k n := by
  unfold grid
  simp only [List.mem_flatMap, List.mem_map, List.mem_range]
  constructor
  · rintro ⟨k, hk, n, hn, rfl⟩; exact ⟨k, n, hk, hn, rfl⟩
  · rintro ⟨k, n, hk, hn, rfl⟩; exact ⟨k, hk, n, hn, rfl⟩
theorem map_range_s {α : Type} {f : Nat → α} {n : Nat} : (List.range (n + 1)).map f = (List.range n).map f ++ [f n] := by
  rw [List.range_succ, List.map_append]; rfl
def kkey (k n : Nat) : List Int := [(k : Int), (n : Int)]
theorem kkey_inj {k n k' n' : Nat} (h : kkey k n = kkey k' n') : k = k' ∧ n = n' := by
  unfold kkey at h
  simp only [List.cons.injEq, and_true] at h
  omega
abbrev dgrid (a b : Nat) (f : Nat → Nat → D) : List (List Int × D) := grid a b fun k n => (kkey k n, f k n)
theorem getK_grid {a b k n : Nat} {f : Nat → Nat → D} (hk : k < a) (hn : n < b) : getK (dgrid a b f) (kkey k n) = some (f k n) :=
  getK_mem ⟨_, mem_grid.mpr ⟨k, n, hk, hn, rfl⟩, rfl⟩ fun p hp e => by
    obtain ⟨k', n', _, _, rfl⟩ := mem_grid.mp hp
    obtain ⟨rfl, rfl⟩ := kkey_inj e
    rfl
theorem put_grid {a b n : Nat} {f : Nat → Nat → D} (hn : n < b) : putD (dgrid a b f ++ (List.range n).map fun j => (kkey a j, f a j)) (kkey a n) (f a n) = dgrid a b f ++ (List.range (n + 1)).map fun j => (kkey a j, f a j) := by
  rw [putD_new, map_range_s, List.append_assoc]
  intro p hp e
  rcases List.mem_append.mp hp with hp | hp
  · obtain ⟨k', n', hk, _, rfl⟩ := mem_grid.mp hp
    have := kkey_inj e
    omega
  · obtain ⟨j, hj, rfl⟩ := List.mem_map.mp hp
    have := kkey_inj e
    have := List.mem_range.mp hj
    omega
end Pv
set_option Elab.async false
set_option linter.all false
set_option maxRecDepth 100000
set_option maxHeartbeats 4000000
set_option autoImplicit false
namespace Pv
open PySem PySem.Spec PyProof.Rows L2
section
variable {Γ : Gam} {N : List Str} {sc : Scope} {κ κ1 κ2 κ3 : Kd} {G H G' H' G1 H1 : Hp} {v : V} {d : D}
/-! ### a board's fields and methods -/
structure BrdC (Γ : Gam) : Prop where
  cl : Cls Γ.K (boardA Γ.K)
  nr : NoAttr Γ.K (boardA Γ.K) "rows"
  nn : NoAttr Γ.K (boardA Γ.K) "next_number"
def rowsD : D → Option D
  | .brd r _ => some r
  | _ => none
theorem RepB.brd {r n : D} {x : V} (h : RepB Γ.K Γ.C G H x (.brd r n)) : ∃ a dx v1 v2, x = .ref a ∧ G a = some (.ins (boardA Γ.K) dx [("rows", v1), ("next_number", v2)]) ∧ Rep Γ.K Γ.C G v1 r ∧ Rep Γ.K Γ.C G v2 n := by
  rcases h with h | ⟨a, rfl, h⟩
  · cases h with
    | brd h1 h2 h3 => exact ⟨_, _, _, _, rfl, h1, h2, h3⟩
  · exact h.elim
theorem look_r {v1 v2 : V} : ([("rows", v1), ("next_number", v2)] : List (Str × V)).lookup ("rows" : Str) = some v1 := by rfl
theorem d_rows {ea : Expr} {a : Env → Option D} {pos : Pos} (C : BrdC Γ) (ha : DV Γ N sc κ1 ea a) (hb : ∀ env : PySem.Env, attributeBase ea "rows" env (eval ea env) = eval ea env := by exact fun _ => rfl) : DV Γ N sc .e (.Attribute ea "rows" pos) (f1 rowsD a) := by
  obtain ⟨ta, pa, sa⟩ := ha.ex
  refine ⟨_, fun X g => g.K ▸ pe_fld (pa X g) (hb _), fun H0 ρ σ G H Q z s E e q => ?_⟩
  unfold f1 at e
  cases eaa : a ρ with
  | none => rw [eaa] at e; cases e
  | some x =>
    rw [eaa] at e
    cases x <;> cases e
    refine sa H0 ρ σ G H _ _ s E eaa fun G1 H1 v g1 o1 => ?_
    obtain ⟨b, dx, v1, v2, rfl, h1, r1, r2⟩ := RepB.brd o1.b
    exact ⟨_, _, _, _, _, rfl, g1.s.ins h1, C.cl, C.nr, look_r, q G1 H1 _ g1 r1⟩
structure HasB (Γ : Gam) (m : Str) (f : List D → Option D) : Prop where
  no : ∀ v1 v2 : V, ([("rows", v1), ("next_number", v2)] : List (Str × V)).lookup m = none
  ex : ∃ (j : Nat) (a : Addr) (fd : FuncData) (ps : List Str), j ≤ Γ.k ∧ Meth Γ.K (boardA Γ.K) m a ∧ Binds Γ.K fd ps [] ∧ FnOk Γ.P Γ.w Γ.K Γ.mg Γ.base CX0 j a fd ps (spD Γ.K Γ.C f)
theorem HasB.up {x : Str} {f : List D → Option D} {j k : Nat} (h : HasB (Γ.at j) x f) (hk : j ≤ k) : HasB (Γ.at k) x f := by
  obtain ⟨i, a, fd, ps, h1, h2⟩ := h.ex
  exact ⟨h.no, i, a, fd, ps, Nat.le_trans h1 hk, h2⟩
def brdB : D → Bool
  | .brd _ _ => true
  | _ => false
def fB (f : List D → Option D) (o : Env → Option D) (a : Env → Option (List D)) : Env → Option D := fun ρ => (o ρ).bind fun x => (a ρ).bind fun ds => if brdB x then f (x :: ds) else none
theorem sem_methB {m : Str} {f : List D → Option D} {to : TE} {t : TA} {o : Env → Option D} {a : Env → Option (List D)} {E : XK} (no : ∀ v1 v2 : V, ([("rows", v1), ("next_number", v2)] : List (Str × V)).lookup m = none) (so : SemV Γ κ to o) (sa : SemA Γ t a) :
    SemV Γ .e (tMeth (boardA Γ.K) m (spD Γ.K Γ.C f) [] E to t) (fB f o a) := fun H0 ρ σ G H Q z s Ev e q => by
  unfold fB at e
  cases eo : o ρ with
  | none => rw [eo] at e; cases e
  | some x =>
    cases ea : a ρ with
    | none => simp only [eo, ea, Option.bind_some] at e; cases e
    | some ds =>
      simp only [eo, ea, Option.bind_some] at e
      cases x <;> first | cases e | skip
      have e : f (_ :: ds) = some z := e
      refine so H0 ρ σ G H _ _ s Ev eo fun G1 H1 v g1 o1 => ?_
      obtain ⟨b, dx, v1, v2, rfl, h1, r1, r2⟩ := RepB.brd o1.b
      refine ⟨_, _, _, rfl, g1.s.ins h1, no _ _, ?_⟩
      refine sa H0 ρ σ G1 H1 _ ds g1.s (Ev.grow g1) ea fun G2 H2 vs g2 o2 => ?_
      refine ⟨G2, _, z, g2.s, ?_, e, fun G3 H3 v g3 o3 => q G3 H3 v ((g1.trans g2).trans g3) o3⟩
      rw [List.append_nil]
      exact .cons ((Rep.brd h1 r1 r2).mono g2.g) o2
theorem d_methB {m : Str} {f : List D → Option D} {oe e : Expr} {es : List Expr} {o : Env → Option D} {a : Env → Option (List D)} {apos pos : Pos} {pl : PySem.Env → Sem Bool} (C : BrdC Γ) (h : HasB Γ m f) (ho : DV Γ N sc κ oe o) (ha : DA Γ N sc (e :: es) a)
    (hs : Pl1 e es := by exact fun _ => rfl) (hpl : ∀ env : PySem.Env, (backTo pos (starEach es env)).any (·.1) = false := by exact fun _ => rfl)
    (ht : ∀ env : PySem.Env, eval (.Call (.Attribute oe m apos) (e :: es) [] pos) env = (do
      let ov ← eval oe env
      standAt apos.atName
      let (f, first) ← holding [ov] (getMethod ov m (pl env))
      callWith pos f first (backTo pos (starEach (e :: es) env)) (backToKw pos (keywordEach [] env))) := by exact fun _ => rfl) : DV Γ N sc .e (.Call (.Attribute oe m apos) (e :: es) [] pos) (fB f o a) := by
  obtain ⟨no, j, fa, fd, ps, hj, hm, hb, hF⟩ := h
  obtain ⟨to, po, so⟩ := ho.ex
  obtain ⟨t, pa, sa⟩ := ha.ex
  refine ⟨_, fun X g => ?_, sem_methB (E := E0) no so sa⟩
  exact pe_meth (pl := pl X.env) (CX := CX0) (k := j) (f := fa) (fd := fd) (ps := ps) (ds := []) (dvs := []) (po X g) (by rw [g.K]; exact C.cl) (by rw [g.K]; exact hm) (by rw [g.prog, g.w, g.K, g.mg, g.base]; exact hF) (g.room.mono hj) (by rw [g.K]; exact hb) .nil pass0 (pa X g) (hs _) (hpl _) (ht _)
theorem d_methB0 {m : Str} {f : List D → Option D} {oe : Expr} {o : Env → Option D} {apos pos : Pos} {pl : PySem.Env → Sem Bool} (C : BrdC Γ) (h : HasB Γ m f) (ho : DV Γ N sc κ oe o)
    (ht : ∀ env : PySem.Env, eval (.Call (.Attribute oe m apos) [] [] pos) env = (do
      let ov ← eval oe env
      standAt apos.atName
      let (f, first) ← holding [ov] (getMethod ov m (pl env))
      callWith pos f first (backTo pos (starEach [] env)) (backToKw pos (keywordEach [] env))) := by exact fun _ => rfl) : DV Γ N sc .e (.Call (.Attribute oe m apos) [] [] pos) (fB f o fnil) := by
  obtain ⟨no, j, fa, fd, ps, hj, hm, hb, hF⟩ := h
  obtain ⟨to, po, so⟩ := ho.ex
  obtain ⟨t, pa, sa⟩ := (a_nil (Γ := Γ) (N := N) (sc := sc)).ex
  refine ⟨_, fun X g => ?_, sem_methB (E := E0) (t := tNil) no so (fun H0 ρ σ G H Q ds s E e q => by cases e; exact q G H [] (Grow.refl s) .nil)⟩
  exact pe_meth0 (pl := pl X.env) (CX := CX0) (k := j) (f := fa) (fd := fd) (ps := ps) (ds := []) (dvs := []) (po X g) (by rw [g.K]; exact C.cl) (by rw [g.K]; exact hm) (by rw [g.prog, g.w, g.K, g.mg, g.base]; exact hF) (g.room.mono hj) (by rw [g.K]; exact hb) .nil pass0 (ht _)
/-! ### dicts with whole numbers as keys -/
/-- sorted(d), d's keys whole numbers that stand in their order -/
def sortedI : D → Option D
  | .dci kds => if (kds.map Prod.fst).length < 64 ∧ (kds.map Prod.fst).Pairwise (· < ·) then some (.lst ((kds.map Prod.fst).map D.int)) else none
  | _ => none
theorem asc_eq {ys ks : List Int} (hp : ys.Perm ks) (h1 : ys.Pairwise (· ≤ ·)) (h2 : ks.Pairwise (· < ·)) : ys = ks :=
  List.Perm.eq_of_pairwise (fun _ _ _ _ a b => Int.le_antisymm a b) h1 (h2.imp fun h => Int.le_of_lt h) hp
theorem keysI {kvs : List (Key × V)} {kds : List (Int × D)} (h : kvs.map Prod.fst = kds.map fun p => (Sum.inl p.1 : Key)) : kvs.map (fun p => p.1) = (kds.map Prod.fst).map Sum.inl := by
  rw [List.map_map]; exact h
theorem d_sortedI {ea : Expr} {a : Env → Option D} {p pos : Pos} (hg : glB sc "sorted" = true) (hm : Γ.mg "sorted" = none) (ha : DV Γ N sc κ1 ea a) (hs : Pl1 ea [] := by exact fun _ => rfl) : DV Γ N sc .f (.Call (.Name "sorted" p) [ea] [] pos) (f1 sortedI a) :=
  d_b1 (fun X g => call_sortedDI g.calm) (by decide +kernel) (by decide) (by decide) (fun G H x d z s rx h Q q => by
    cases d <;> try cases h
    rename_i kds
    obtain ⟨b, kvs, rfl, h1, h2, h3⟩ := rx.dci s
    have h : (if (kds.map Prod.fst).length < 64 ∧ (kds.map Prod.fst).Pairwise (· < ·) then some (D.lst ((kds.map Prod.fst).map D.int)) else none) = some z := h
    split at h
    · rename_i c
      cases h
      refine ⟨b, kvs, kds.map Prod.fst, rfl, h1, keysI h2, c.1, fun ys p hp hy hn => ?_⟩
      rw [asc_eq hp hy c.2]
      exact q _ _ _ (Grow.newH s hn) ⟨p, rfl, hn, s.free hn, _, upd_same, RepL.ints _⟩
    · cases h) hg hm ha hs
theorem call_lenR {X : Cx} : CallR X (.builtin "len") (fun xs H Q => ∃ a kvs, xs = [V.ref a] ∧ Rd H a (.dK kvs) ∧ Q (.int kvs.length) H) := by
  intro pins s σ H xs us Q I r h
  obtain ⟨a, kvs, rfl, ha, q⟩ := h
  obtain ⟨u, rfl, ru⟩ := vals1 r
  cases ru
  exact L2.d_len I ha fun t s' I' => ⟨.int kvs.length, H, I', ⟨t, rfl⟩, q⟩
def lenI : D → Option D
  | .dci kds => some (.int kds.length)
  | _ => none
theorem d_lenI {ea : Expr} {a : Env → Option D} {p pos : Pos} (hg : glB sc "len" = true) (hm : Γ.mg "len" = none) (ha : DV Γ N sc κ1 ea a) (hs : Pl1 ea [] := by exact fun _ => rfl) : DV Γ N sc .e (.Call (.Name "len" p) [ea] [] pos) (f1 lenI a) :=
  d_b1 (fun X g => call_lenR) PySem.boot_len (by decide) (by decide) (fun G H x d z s rx h Q q => by
    cases d <;> try cases h
    rename_i kds
    obtain ⟨b, kvs, rfl, h1, h2, h3⟩ := rx.dci s
    have hl : kvs.length = kds.length := by
      have := congrArg List.length h2
      simpa using this
    exact ⟨b, kvs, rfl, h1, q G H _ (Grow.refl s) (by rw [hl]; exact .int _)⟩) hg hm ha hs
theorem d_dnewI {pos : Pos} : DV Γ N sc .f (.Dict [] [] pos) (kc (.dci [])) := by
  refine ⟨tDNewK, fun X g => pe_dnewK, fun H0 ρ σ G H Q d s E e q => ?_⟩
  cases e
  exact fun p hp => q _ _ _ (Grow.newH s hp) ⟨p, rfl, hp, s.free hp, [], upd_same, rfl, .nil⟩
/-! ### dict(pairs), d[k] = v with whole numbers as keys -/
def asPairs : List D → Option (List (Int × D))
  | [] => some []
  | .tup [.int k, v] :: r => (asPairs r).map fun l => (k, v) :: l
  | _ => none
def dictI : D → Option D
  | .lst ds => (asPairs ds).bind fun kds => if (kds.map Prod.fst).Pairwise (· < ·) then some (.dci kds) else none
  | _ => none
theorem asPairs_eq : ∀ {ds : List D} {kds : List (Int × D)}, asPairs ds = some kds → ds = kds.map fun p => .tup [.int p.1, p.2]
  | [], kds, h => by cases h; rfl
  | x :: r, kds, h => by
    unfold asPairs at h
    split at h
    · rename_i he; cases he
    · rename_i k v r' he
      cases he
      obtain ⟨l, hl, rfl⟩ := Option.map_eq_some_iff.mp h
      rw [asPairs_eq hl]; rfl
    · cases h
theorem valV_no {kvs : List (Key × V)} {n : Int} (h : n ∉ (kvs.map fun p => p.1).filterMap Sum.getLeft?) : valV kvs (Sum.inl n) = none := by
  cases e : valV kvs (Sum.inl n) with
  | none => rfl
  | some v =>
    exfalso
    have z := valV_in e
    exact h (List.mem_filterMap.mpr ⟨_, z, rfl⟩)
theorem merge_asc : ∀ (kvs acc : List (Key × V)) (ks as : List Int), kvs.map (fun p => p.1) = ks.map Sum.inl → acc.map (fun p => p.1) = as.map Sum.inl → (as ++ ks).Pairwise (· < ·) → mergeK acc kvs = acc ++ kvs
  | [], acc, ks, as, h, ha, hp => (List.append_nil acc).symm
  | p :: kvs, acc, ks, as, h, ha, hp => by
    cases ks with
    | nil => cases h
    | cons k ks =>
      have h1 : p.1 = Sum.inl k := (List.cons.inj h).1
      have h2 : kvs.map (fun p => p.1) = ks.map Sum.inl := (List.cons.inj h).2
      have hn : valV acc p.1 = none := by
        cases e : valV acc p.1 with
        | none => rfl
        | some v =>
          exfalso
          have z := valV_in e
          have z : p.1 ∈ acc.map fun p => p.1 := z
          rw [ha, h1] at z
          obtain ⟨a, ha', e2⟩ := List.mem_map.mp z
          cases e2
          exact absurd ((List.pairwise_append.mp hp).2.2 _ ha' _ List.mem_cons_self) (Int.lt_irrefl _)
      show mergeK (putK acc p.1 p.2) kvs = _
      rw [putK_new p.2 hn, merge_asc kvs (acc ++ [p]) ks (as ++ [k]) h2 (by rw [List.map_append, List.map_append, ha, List.map_singleton, List.map_singleton, h1]) (by rw [List.append_assoc]; exact hp), List.append_assoc]
      rfl
theorem pairs_at (s : SL G H) : ∀ {kds : List (Int × D)} {vs : List V}, RepL Γ.K Γ.C G vs (kds.map fun p => .tup [.int p.1, p.2]) →
    ∃ (ps : List Addr) (kvs : List (Key × V)), vs = ps.map V.ref ∧ Paired (fun p kv => SqT Γ.K H p [kV kv.1, kv.2]) ps kvs ∧ kvs.map Prod.fst = kds.map (fun p => Sum.inl p.1) ∧ RepL Γ.K Γ.C G (kvs.map Prod.snd) (kds.map Prod.snd)
  | [], vs, r => by cases r; exact ⟨[], [], rfl, .nil, rfl, .nil⟩
  | q :: kds, vs, r => by
    cases r with
    | cons r1 r2 =>
      obtain ⟨ps, kvs, rfl, h1, h2, h3⟩ := pairs_at s r2
      cases r1 with
      | tup a1 a2 =>
        rename_i a ws
        cases a2 with
        | cons b1 b2 =>
          cases b2 with
          | cons b2 b3 =>
            cases b3
            cases b1
            rename_i w
            exact ⟨a :: ps, (Sum.inl q.1, w) :: kvs, rfl, .cons (SqT.of (s.tup a1)) h1, by rw [List.map_cons, List.map_cons, h2], .cons b2 h3⟩
theorem d_dictI {ea : Expr} {a : Env → Option D} {p pos : Pos} (hg : glB sc "dict" = true) (hm : Γ.mg "dict" = none) (ha : DV Γ N sc κ1 ea a) (hs : Pl1 ea [] := by exact fun _ => rfl) : DV Γ N sc .f (.Call (.Name "dict" p) [ea] [] pos) (f1 dictI a) :=
  d_t1 (r := fun xs H Q => ∃ (a : Addr) (ps : List Addr) (kvs : List (Key × V)), xs = [.ref a] ∧ SqL Γ.K H a (ps.map V.ref) ∧ Paired (fun p kv => SqT Γ.K H p [kV kv.1, kv.2]) ps kvs ∧ ∀ p, H p = none → Q (.ref p) (upd H p (.dK (mergeK [] kvs))))
    (fun X g => g.K ▸ call_dictP g.calm) (by decide +kernel) (by decide) (by decide) (fun G H x d z s rx h Q q => by
    cases d <;> try cases h
    rename_i ds
    obtain ⟨b, vs, rfl, h1, h2⟩ := rx.lst s
    obtain ⟨kds, hk, h⟩ := Option.bind_eq_some_iff.mp h
    split at h
    · rename_i c
      cases h
      rw [asPairs_eq hk] at h2
      obtain ⟨ps, kvs, rfl, h3, h4, h5⟩ := pairs_at s h2
      refine ⟨b, ps, kvs, rfl, SqL.of h1, h3, fun p hp => ?_⟩
      rw [merge_asc kvs [] (kds.map Prod.fst) [] (keysI h4) rfl c, List.nil_append]
      exact q _ _ _ (Grow.newH s hp) ⟨p, rfl, hp, s.free hp, kvs, upd_same, h4, h5⟩
    · cases h) hg hm ha hs
/-- x[k] = e, x one's own dict, k a whole number that is no key yet -/
def sputI (i : Nat) (k a : Env → Option D) : Env → Option Res := fun ρ => (a ρ).bind fun d => (k ρ).bind fun kd => match ρ[i]?, kd with
  | some (.ow (.dci kds)), .int n => if n ∉ kds.map Prod.fst ∧ kds.length < big then some (.nx (ρ.set i (.ow (.dci (kds ++ [(n, d)]))))) else none
  | _, _ => none
theorem s_putI {i : Nat} {x : Str} {px sp pos : Pos} {ek e : Expr} {k a : Env → Option D} (hN : N[i]? = some x) (hv : visB sc x = true) (hd : (x == ("__debug__" : Str)) = false) (hcd : (x == ("__classdict__" : Str)) = false) (hk : DV Γ N sc .e ek k) (ha : DV Γ N sc .e e a)
    (hs1 : ∀ env : PySem.Env, swapsWith e (some (.Subscript (.Name x px) ek sp)) pos.line env = pure false := by exact fun _ => rfl) :
    DS Γ N sc (.Assign [.Subscript (.Name x px) ek sp] e pos) (sputI i k a) := by
  obtain ⟨tk, pk, sk⟩ := hk.ex
  obtain ⟨ta, pa, sa⟩ := ha.ex
  refine ⟨sDPut (tVar i) tk ta, fun X g f => ?_, fun G0 H0 ρ σ G H De r g E e q1 q2 => ?_⟩
  · exact ps_dput (hu_of g.room) (pe_var (by rw [g.N]; exact hN) (by rw [g.sc]; exact vis_of hv) hd hcd) (pk X g) (pa X g) (hs1 _)
  · unfold sputI at e
    obtain ⟨d, ea, e⟩ := Option.bind_eq_some_iff.mp e
    obtain ⟨kd, ek', e⟩ := Option.bind_eq_some_iff.mp e
    split at e
    · rename_i kds n hi
      split at e
      · rename_i c
        cases e
        obtain ⟨b, h1, h2, h3, kvs, h4, h5, h6⟩ := E.sl i _ hi
        refine sa H0 ρ σ G H _ d g.s E ea fun G1 H1 v g1 o1 => ⟨.ref b, h1, sk H0 ρ σ G1 H1 _ _ g1.s (E.grow g1) ek' fun G2 H2 w g2 o2 => ?_⟩
        have o2 : Rep Γ.K Γ.C G2 w (.int n) := o2
        cases o2
        have g12 := g1.trans g2
        have h4' : H2 b = some (.dK kvs) := g12.x _ _ h3 h4
        have h3' : G2 b = none := by
          by_cases q : G2 b = none
          · exact q
          · rcases g12.n b h3 q with e | ⟨ws, e⟩
            · rw [h4] at e; cases e
            · rw [h4] at e; cases e
        have hlen : kvs.length = kds.length := by
          have := congrArg List.length h5
          simpa using this
        have hno : valV kvs (Sum.inl n) = none := by
          cases ev : valV kvs (Sum.inl n) with
          | none => rfl
          | some u =>
            exfalso
            have z := valV_in ev
            have z : (Sum.inl n : Key) ∈ kvs.map Prod.fst := z
            rw [h5] at z
            obtain ⟨q, hq, e2⟩ := List.mem_map.mp z
            cases e2
            exact c.1 (List.mem_map.mpr ⟨q, hq, rfl⟩)
        refine ⟨b, _, rfl, .inl ⟨kvs, Sum.inl n, h4', rfl, by rw [hlen]; exact big_lt c.2, rfl⟩, ?_⟩
        rw [putK_new v hno]
        refine q1 _ G2 _ σ rfl ((g.trans g12).updH h3' h2) g12.g ((E.grow g12).upd hi h1 h2 h3' ⟨_, upd_same, ?_, ?_⟩)
        · rw [List.map_append, List.map_append, h5]; rfl
        · rw [List.map_append, List.map_append]
          exact (h6.mono g12.g).app (.cons (Rep.mono g2.g o1) .nil)
      · cases e
    · cases e
/-! ### rows that evaluate -/
theorem fB_eq {f : List D → Option D} {o : Env → Option D} {a : Env → Option (List D)} {ρ : Env} : fB f o a ρ = (o ρ).bind fun x => (a ρ).bind fun ds => if brdB x = true then f (x :: ds) else none := (rfl)
theorem rowsD_b {r n : D} : rowsD (.brd r n) = some r := (rfl)
theorem brdB_b {r n : D} : brdB (.brd r n) = true := (rfl)
theorem lenI_d {kds : List (Int × D)} : lenI (.dci kds) = some (.int kds.length) := (rfl)
theorem seqD_i {kds : List (Int × D)} : seqD (.dci kds) = some (kds.map fun p => .int p.1) := (rfl)
theorem sputI_eq {i : Nat} {k a : Env → Option D} {ρ : Env} : sputI i k a ρ = (a ρ).bind fun d => (k ρ).bind fun kd => match ρ[i]?, kd with
  | some (.ow (.dci kds)), .int n => if n ∉ kds.map Prod.fst ∧ kds.length < big then some (.nx (ρ.set i (.ow (.dci (kds ++ [(n, d)]))))) else none
  | _, _ => none := (rfl)
theorem ixD_i {kds : List (Int × D)} {i : Int} : ixD (.dci kds) (.int i) = getK kds i := (rfl)
theorem ninD_i {kds : List (Int × D)} {i : Int} : ninD (.int i) (.dci kds) = some (.bl (!(getK kds i).isSome)) := (rfl)
end
end Pv
set_option Elab.async false
set_option linter.all false
set_option maxRecDepth 100000
set_option maxHeartbeats 4000000
set_option autoImplicit false
namespace Pv
open PySem PySem.Spec PyProof.Rows L2
/-! ### what the defs do with values (printed by gen.py) -/
noncomputable def F_common : Env → Option Res :=
  (sseq (swhile (tb (f2 neD (nb 1) (kc (.int 0))))
  (spar 0 1 (nm 1) (f2 modD (nb 0) (nb 1))))
  (sret (f1 absD (nb 0))))
noncomputable def c_common : List D → Option D := callD ["a", "b"] 2 F_common
theorem st_common (x0 x1 : D) : c_common [x0, x1] = endD (F_common [.sh x0, .sh x1]) := callD_eq rfl
noncomputable def F_is_more : Env → Option Res :=
  (sret (f2 gtD (f2 mulD (f2 ixD (nb 0) (kc (.int 0))) (f2 ixD (nb 1) (kc (.int 1)))) (f2 mulD (f2 ixD (nb 1) (kc (.int 0))) (f2 ixD (nb 0) (kc (.int 1))))))
noncomputable def c_is_more : List D → Option D := callD ["one", "other"] 2 F_is_more
theorem st_is_more (x0 x1 : D) : c_is_more [x0, x1] = endD (F_is_more [.sh x0, .sh x1]) := callD_eq rfl
noncomputable def F_Net_width : Env → Option Res :=
  (sseq (sif (tb (f2 ltD (f2 addD (nb 1) (kc (.int 1))) (f1 lenD (f1 turnsD (nb 0)))))
  (sret (f2 subD (f2 ixD (f1 turnsD (nb 0)) (f2 addD (nb 1) (kc (.int 1)))) (f2 ixD (f1 turnsD (nb 0)) (nb 1))))
  snx)
  (sret (f2 subD (kc (.int 24)) (f2 ixD (f1 turnsD (nb 0)) (nb 1)))))
noncomputable def c_Net_width : List D → Option D := callD ["self", "n"] 2 F_Net_width
theorem st_Net_width (x0 x1 : D) : c_Net_width [x0, x1] = endD (F_Net_width [.sh x0, .sh x1]) := callD_eq rfl
noncomputable def F_Net_bounded : Env → Option Res :=
  (sret (lcF [1] (iseq (f1 insideD (nb 0))) (.one 1) (tb (f2 ltD (f2 addD (f2 ixD (nb 1) (kc (.int 0))) (kc (.int 1))) (f1 lenD (f1 farsD (nb 0))))) (nm 1)))
noncomputable def c_Net_bounded : List D → Option D := callD ["self", "cell"] 1 F_Net_bounded
theorem st_Net_bounded (x0 : D) : c_Net_bounded [x0] = endD (F_Net_bounded [.sh x0, .no]) := callD_eq rfl
noncomputable def F_half : Env → Option Res :=
  (sseq (sif (tb (f2 eqD (f2 modD (nb 0) (kc (.int 2))) (kc (.int 0))))
  (sret (fN tupD (fcons (f2 fdivD (nb 0) (kc (.int 2))) (fcons (kc (.int 1)) fnil))))
  snx)
  (sret (fN tupD (fcons (nm 0) (fcons (kc (.int 2)) fnil)))))
noncomputable def c_half : List D → Option D := callD ["number"] 1 F_half
theorem st_half (x0 : D) : c_half [x0] = endD (F_half [.sh x0]) := callD_eq rfl
noncomputable def F__law_mix : Env → Option Res :=
  (sret (f2 modD (f2 modD (f2 mulD (nb 0) (kc (.int 48271))) (nb 1)) (nb 2)))
noncomputable def c__law_mix : List D → Option D := callD ["_law_cell_here", "_law_prime", "_law_many"] 3 F__law_mix
theorem st__law_mix (x0 x1 x2 : D) : c__law_mix [x0, x1, x2] = endD (F__law_mix [.sh x0, .sh x1, .sh x2]) := callD_eq rfl
noncomputable def F__law_fraction : Env → Option Res :=
  (sseq (sset 2 (f1 absD (nb 0)))
  (sseq (sset 3 (nm 1))
  (sseq (swhile (tb (f2 gtD (nb 3) (kc (.int 0))))
  (spar 2 3 (nm 3) (f2 modD (nb 2) (nb 3))))
  (sret (fN tupD (fcons (f2 fdivD (nb 0) (nb 2)) (fcons (f2 fdivD (nb 1) (nb 2)) fnil)))))))
noncomputable def c__law_fraction : List D → Option D := callD ["_law_upper", "_law_lower", "_law_one", "_law_other"] 2 F__law_fraction
theorem st__law_fraction (x0 x1 : D) : c__law_fraction [x0, x1] = endD (F__law_fraction [.sh x0, .sh x1, .no, .no]) := callD_eq rfl
noncomputable def F__law_has : Env → Option Res :=
  (sseq (sbind (.tup [3, 4, 5, 6]) (nm 0))
  (sseq (sif (tor (tb (f2 ltD (f2 ixD (nb 1) (kc (.int 0))) (f2 mulD (nb 3) (f2 ixD (nb 1) (kc (.int 1)))))) (tb (f2 geD (f2 ixD (nb 1) (kc (.int 0))) (f2 mulD (nb 4) (f2 ixD (nb 1) (kc (.int 1)))))))
  (sret (kc (.bl false)))
  snx)
  (sret (f2 ltD (f2 modD (f2 subD (f2 ixD (nb 2) (kc (.int 0))) (f2 mulD (nb 5) (f2 ixD (nb 2) (kc (.int 1))))) (f2 mulD (kc (.int 24)) (f2 ixD (nb 2) (kc (.int 1))))) (f2 mulD (nb 6) (f2 ixD (nb 2) (kc (.int 1))))))))
noncomputable def c__law_has : List D → Option D := callD ["_law_piece_here", "_law_far", "_law_turn", "_law_inner", "_law_outer", "_law_begin", "_law_wide"] 3 F__law_has
theorem st__law_has (x0 x1 x2 : D) : c__law_has [x0, x1, x2] = endD (F__law_has [.sh x0, .sh x1, .sh x2, .no, .no, .no, .no]) := callD_eq rfl
noncomputable def F__law_whole : Env → Option Res :=
  (sret (vand (f1 (isiD "int") (nb 0)) (f1 notD (f1 (isiD "bool") (nb 0)))))
noncomputable def c__law_whole : List D → Option D := callD ["_law_found"] 1 F__law_whole
theorem st__law_whole (x0 : D) : c__law_whole [x0] = endD (F__law_whole [.sh x0]) := callD_eq rfl
noncomputable def F_fraction : Env → Option Res :=
  (sseq (sif (tb (f2 ltD (nb 1) (kc (.int 0))))
  (sseq (sset 0 (f1 negD (nb 0)))
  (sset 1 (f1 negD (nb 1))))
  snx)
  (sseq (sset 2 (fN c_common (fcons (nm 0) (fcons (nm 1) fnil))))
  (sret (fN tupD (fcons (f2 fdivD (nb 0) (nb 2)) (fcons (f2 fdivD (nb 1) (nb 2)) fnil))))))
noncomputable def c_fraction : List D → Option D := callD ["upper", "lower", "by"] 2 F_fraction
theorem st_fraction (x0 x1 : D) : c_fraction [x0, x1] = endD (F_fraction [.sh x0, .sh x1, .no]) := callD_eq rfl
noncomputable def F_Net_point_in : Env → Option Res :=
  (sseq (sbind (.tup [2, 3]) (nm 1))
  (sseq (sset 4 (fN tupD (fcons (f2 addD (f2 ixD (f1 farsD (nb 0)) (nb 2)) (kc (.int 1))) (fcons (kc (.int 1)) fnil))))
  (sseq (sif (tb (f2 ltD (f2 addD (nb 2) (kc (.int 1))) (f1 lenD (f1 farsD (nb 0)))))
  (sset 4 (fN c_half (fcons (f2 addD (f2 ixD (f1 farsD (nb 0)) (nb 2)) (f2 ixD (f1 farsD (nb 0)) (f2 addD (nb 2) (kc (.int 1))))) fnil)))
  snx)
  (sret (fN tupD (fcons (nm 4) (fcons (fN c_half (fcons (f2 addD (f2 mulD (kc (.int 2)) (f2 ixD (f1 turnsD (nb 0)) (nb 3))) (fM c_Net_width (nb 0) (fcons (nm 3) fnil))) fnil)) fnil)))))))
noncomputable def c_Net_point_in : List D → Option D := callD ["self", "cell", "k", "n", "far"] 2 F_Net_point_in
theorem st_Net_point_in (x0 x1 : D) : c_Net_point_in [x0, x1] = endD (F_Net_point_in [.sh x0, .sh x1, .no, .no, .no]) := callD_eq rfl
noncomputable def F_Net_area : Env → Option Res :=
  (sseq (sbind (.tup [2, 3]) (nm 1))
  (sseq (sif (tb (f2 eqD (f2 addD (nb 2) (kc (.int 1))) (f1 lenD (f1 farsD (nb 0)))))
  (sret (kc .non))
  snx)
  (sret (f2 mulD (f2 subD (f2 mulD (f2 ixD (f1 farsD (nb 0)) (f2 addD (nb 2) (kc (.int 1)))) (f2 ixD (f1 farsD (nb 0)) (f2 addD (nb 2) (kc (.int 1))))) (f2 mulD (f2 ixD (f1 farsD (nb 0)) (nb 2)) (f2 ixD (f1 farsD (nb 0)) (nb 2)))) (fM c_Net_width (nb 0) (fcons (nm 3) fnil))))))
noncomputable def c_Net_area : List D → Option D := callD ["self", "cell", "k", "n"] 2 F_Net_area
theorem st_Net_area (x0 x1 : D) : c_Net_area [x0, x1] = endD (F_Net_area [.sh x0, .sh x1, .no, .no]) := callD_eq rfl
noncomputable def F__law_piece : Env → Option Res :=
  (sseq (sset 2 (fN c__law_mix (fcons (nm 0) (fcons (kc (.int 9973)) (fcons (nm 1) fnil)))))
  (sseq (sset 3 (f2 addD (f2 addD (nb 2) (kc (.int 1))) (fN c__law_mix (fcons (nm 0) (fcons (kc (.int 9967)) (fcons (f2 subD (nb 1) (nb 2)) fnil))))))
  (sseq (sset 4 (f2 addD (kc (.int 1)) (fN c__law_mix (fcons (nm 0) (fcons (kc (.int 9949)) (fcons (kc (.int 24)) fnil))))))
  (sseq (sif (tb (f2 eqD (f2 modD (nb 0) (kc (.int 4))) (kc (.int 0))))
  (sset 4 (kc (.int 24)))
  snx)
  (sret (fN tupD (fcons (nm 2) (fcons (nm 3) (fcons (fN c__law_mix (fcons (nm 0) (fcons (kc (.int 9941)) (fcons (kc (.int 24)) fnil)))) (fcons (nm 4) fnil))))))))))
noncomputable def c__law_piece : List D → Option D := callD ["_law_cell_here", "_law_most", "_law_inner", "_law_outer", "_law_wide"] 2 F__law_piece
theorem st__law_piece (x0 x1 : D) : c__law_piece [x0, x1] = endD (F__law_piece [.sh x0, .sh x1, .no, .no, .no]) := callD_eq rfl
noncomputable def F__law_point : Env → Option Res :=
  (sseq (sset 2 (fN c__law_fraction (fcons (f2 addD (kc (.int 1)) (fN c__law_mix (fcons (nm 0) (fcons (kc (.int 9929)) (fcons (f2 addD (f2 mulD (kc (.int 4)) (nb 1)) (kc (.int 8))) fnil))))) (fcons (kc (.int 4)) fnil))))
  (sret (fN tupD (fcons (nm 2) (fcons (fN c__law_fraction (fcons (fN c__law_mix (fcons (nm 0) (fcons (kc (.int 9923)) (fcons (kc (.int 72)) fnil)))) (fcons (kc (.int 3)) fnil))) fnil)))))
noncomputable def c__law_point : List D → Option D := callD ["_law_cell_here", "_law_most", "_law_far"] 2 F__law_point
theorem st__law_point (x0 x1 : D) : c__law_point [x0, x1] = endD (F__law_point [.sh x0, .sh x1, .no]) := callD_eq rfl
noncomputable def F__law_layers : Env → Option Res :=
  (sret (f1 tupleD (lcF [2, 3] (ienum (nm 0)) (.tup [2, 3]) (tv (fN c__law_has (fcons (nm 3) (fcons (f2 ixD (nb 1) (kc (.int 0))) (fcons (f2 ixD (nb 1) (kc (.int 1))) fnil))))) (nm 2))))
noncomputable def c__law_layers : List D → Option D := callD ["_law_sheet_here", "_law_point_here", "_law_k", "_law_piece_here"] 2 F__law_layers
theorem st__law_layers (x0 x1 : D) : c__law_layers [x0, x1] = endD (F__law_layers [.sh x0, .sh x1, .no, .no]) := callD_eq rfl
noncomputable def F_less : Env → Option Res :=
  (sret (fN c_fraction (fcons (f2 subD (f2 mulD (f2 ixD (nb 0) (kc (.int 0))) (f2 ixD (nb 1) (kc (.int 1)))) (f2 mulD (f2 ixD (nb 1) (kc (.int 0))) (f2 ixD (nb 0) (kc (.int 1))))) (fcons (f2 mulD (f2 ixD (nb 0) (kc (.int 1))) (f2 ixD (nb 1) (kc (.int 1)))) fnil))))
noncomputable def c_less : List D → Option D := callD ["one", "other"] 2 F_less
theorem st_less (x0 x1 : D) : c_less [x0, x1] = endD (F_less [.sh x0, .sh x1]) := callD_eq rfl
noncomputable def F_on_round : Env → Option Res :=
  (sret (fN c_fraction (fcons (f2 modD (f2 ixD (nb 0) (kc (.int 0))) (f2 mulD (kc (.int 24)) (f2 ixD (nb 0) (kc (.int 1))))) (fcons (f2 ixD (nb 0) (kc (.int 1))) fnil))))
noncomputable def c_on_round : List D → Option D := callD ["one"] 1 F_on_round
theorem st_on_round (x0 : D) : c_on_round [x0] = endD (F_on_round [.sh x0]) := callD_eq rfl
noncomputable def F_has : Env → Option Res :=
  (sseq (sbind (.tup [2, 3, 4, 5]) (nm 0))
  (sseq (sbind (.tup [6, 7]) (nm 1))
  (sseq (sif (tor (tv (fN c_is_more (fcons (fN tupD (fcons (nm 2) (fcons (kc (.int 1)) fnil))) (fcons (nm 6) fnil)))) (tnot (tv (fN c_is_more (fcons (fN tupD (fcons (nm 3) (fcons (kc (.int 1)) fnil))) (fcons (nm 6) fnil))))))
  (sret (kc (.bl false)))
  snx)
  (sret (fN c_is_more (fcons (fN tupD (fcons (nm 5) (fcons (kc (.int 1)) fnil))) (fcons (fN c_on_round (fcons (fN c_less (fcons (nm 7) (fcons (fN tupD (fcons (nm 4) (fcons (kc (.int 1)) fnil))) fnil))) fnil)) fnil)))))))
noncomputable def c_has : List D → Option D := callD ["piece", "point", "inner", "outer", "begin", "wide", "far", "turn"] 2 F_has
theorem st_has (x0 x1 : D) : c_has [x0, x1] = endD (F_has [.sh x0, .sh x1, .no, .no, .no, .no, .no, .no]) := callD_eq rfl
noncomputable def F_layers : Env → Option Res :=
  (sret (f1 tupleD (lcF [2, 3] (ienum (nm 0)) (.tup [2, 3]) (tv (fN c_has (fcons (nm 3) (fcons (nm 1) fnil)))) (nm 2))))
noncomputable def c_layers : List D → Option D := callD ["sheet", "point", "number", "piece"] 2 F_layers
theorem st_layers (x0 x1 : D) : c_layers [x0, x1] = endD (F_layers [.sh x0, .sh x1, .no, .no]) := callD_eq rfl
noncomputable def n_F1 : Env → Option Res :=
  (sown 2 (fN lstD (fcons (kc (.int 0)) fnil)))
noncomputable def n_F2 : Env → Option Res :=
  (sown 3 (fN lstD fnil))
noncomputable def n_F3 : Env → Option Res :=
  (sfor (iseq (nm 1)) (.tup [4, 5, 6, 7])
  (sseq (sext 2 (fN lstD (fcons (nm 4) (fcons (nm 5) fnil))))
  (sext 3 (fN lstD (fcons (nm 6) (fcons (f2 modD (f2 addD (nb 6) (nb 7)) (kc (.int 24))) fnil))))))
noncomputable def n_Ef : Env → Option D :=
  (f1 ssD (nb 2))
noncomputable def n_Et : Env → Option D :=
  (f1 ssD (f2 addD (nb 3) (fN lstD (fcons (kc (.int 0)) fnil))))
noncomputable def n_Ik : Env → Option (List D) :=
  (irange1 (f1 lenD (f1 farsD (nb 0))))
noncomputable def n_In : Env → Option (List D) :=
  (irange1 (f1 lenD (f1 turnsD (nb 0))))
noncomputable def n_Kf : Env → Option D :=
  (fN tupD (fcons (nm 8) (fcons (nm 9) fnil)))
noncomputable def n_Vf : Env → Option D :=
  (fN c_layers (fcons (nm 1) (fcons (fM c_Net_point_in (nb 0) (fcons (fN tupD (fcons (nm 8) (fcons (nm 9) fnil))) fnil)) fnil)))
noncomputable def c_Net : D → Option D := anyX (netF n_F1 n_F2 n_F3 n_Ef n_Et n_Ik (.one 8) n_In (.one 9) n_Kf n_Vf)
noncomputable def F_depth_areas : Env → Option Res :=
  (sseq (sset 1 (f1 c_Net (nm 0)))
  (sseq (sown 2 (lcF [5] (iseq (nm 0)) (.one 5) tyes (kc (.int 0))))
  (sseq (sfor (iseq (fM c_Net_bounded (nb 1) fnil)) (.one 3)
  (sseq (sset 4 (f1 lenD (f2 ixD (f1 insideD (nb 1)) (nb 3))))
  (sif (tb (f2 gtD (nb 4) (kc (.int 0))))
  (sput 2 (f2 subD (nb 4) (kc (.int 1))) (f2 addD (f2 ixD (nb 2) (f2 subD (nb 4) (kc (.int 1)))) (fM c_Net_area (nb 1) (fcons (nm 3) fnil))))
  snx)))
  (sret (f1 tupleD (nb 2))))))
noncomputable def c_depth_areas : List D → Option D := callD ["sheet", "net", "found", "cell", "many", "piece"] 1 F_depth_areas
theorem st_depth_areas (x0 : D) : c_depth_areas [x0] = endD (F_depth_areas [.sh x0, .no, .no, .no, .no, .no]) := callD_eq rfl
noncomputable def F_covered_area : Env → Option Res :=
  (sret (f1 sumD (fN c_depth_areas (fcons (nm 0) fnil))))
noncomputable def c_covered_area : List D → Option D := callD ["sheet"] 1 F_covered_area
theorem st_covered_area (x0 : D) : c_covered_area [x0] = endD (F_covered_area [.sh x0]) := callD_eq rfl
noncomputable def F_Board_numbers : Env → Option Res :=
  (sret (f1 tupleD (f1 sortedI (f1 rowsD (nb 0)))))
noncomputable def c_Board_numbers : List D → Option D := callD ["self"] 1 F_Board_numbers
theorem st_Board_numbers (x0 : D) : c_Board_numbers [x0] = endD (F_Board_numbers [.sh x0]) := callD_eq rfl
noncomputable def F_Board_sheet : Env → Option Res :=
  (sret (f1 tupleD (lcF [1] (iseq (fB c_Board_numbers (nb 0) fnil)) (.one 1) tyes (f2 ixD (f1 rowsD (nb 0)) (nb 1)))))
noncomputable def c_Board_sheet : List D → Option D := callD ["self", "number"] 1 F_Board_sheet
theorem st_Board_sheet (x0 : D) : c_Board_sheet [x0] = endD (F_Board_sheet [.sh x0, .no]) := callD_eq rfl
noncomputable def F_Board_layers_at : Env → Option Res :=
  (sseq (sset 2 (fB c_Board_numbers (nb 0) fnil))
  (sret (f1 tupleD (lcF [3] (iseq (fN c_layers (fcons (fB c_Board_sheet (nb 0) fnil) (fcons (nm 1) fnil)))) (.one 3) tyes (f2 ixD (nb 2) (nb 3))))))
noncomputable def c_Board_layers_at : List D → Option D := callD ["self", "point", "some", "place"] 2 F_Board_layers_at
theorem st_Board_layers_at (x0 x1 : D) : c_Board_layers_at [x0, x1] = endD (F_Board_layers_at [.sh x0, .sh x1, .no, .no]) := callD_eq rfl
noncomputable def F_Board_depth_area : Env → Option Res :=
  (sseq (sset 2 (fN c_depth_areas (fcons (fB c_Board_sheet (nb 0) fnil) fnil)))
  (sseq (sif (tb (f2 gtD (nb 1) (f1 lenD (nb 2))))
  (sret (kc (.int 0)))
  snx)
  (sret (f2 ixD (nb 2) (f2 subD (nb 1) (kc (.int 1)))))))
noncomputable def c_Board_depth_area : List D → Option D := callD ["self", "k", "some"] 2 F_Board_depth_area
theorem st_Board_depth_area (x0 x1 : D) : c_Board_depth_area [x0, x1] = endD (F_Board_depth_area [.sh x0, .sh x1, .no]) := callD_eq rfl
noncomputable def F_Board_area : Env → Option Res :=
  (sret (fN c_covered_area (fcons (fB c_Board_sheet (nb 0) fnil) fnil)))
noncomputable def c_Board_area : List D → Option D := callD ["self"] 1 F_Board_area
theorem st_Board_area (x0 : D) : c_Board_area [x0] = endD (F_Board_area [.sh x0]) := callD_eq rfl
noncomputable def F__law_right : Env → Option Res :=
  (sseq (sset 3 (f1 sortedI (nb 1)))
  (sseq (sset 4 (f1 tupleD (lcF [6] (iseq (nm 3)) (.one 6) tyes (f2 ixD (nb 1) (nb 6)))))
  (sseq (sif (tor (tb (f2 neD (fB c_Board_numbers (nb 0) fnil) (f1 tupleD (nb 3)))) (tor (tb (f2 neD (fB c_Board_sheet (nb 0) fnil) (nb 4))) (tb (f2 neD (fB c_Board_area (nb 0) fnil) (fN c_covered_area (fcons (nm 4) fnil))))))
  (sret (kc (.bl false)))
  snx)
  (sseq (sif (tb (f2 neD (fB c_Board_layers_at (nb 0) (fcons (nm 2) fnil)) (f1 tupleD (lcF [7] (iseq (fN c__law_layers (fcons (nm 4) (fcons (nm 2) fnil)))) (.one 7) tyes (f2 ixD (nb 3) (nb 7))))))
  (sret (kc (.bl false)))
  snx)
  (sseq (sset 5 (f2 addD (fN c_depth_areas (fcons (nm 4) fnil)) (fN tupD (fcons (kc (.int 0)) (fcons (kc (.int 0)) fnil)))))
  (sret (f2 eqD (lcF [7] (irange1 (f1 lenD (nb 5))) (.one 7) tyes (fB c_Board_depth_area (nb 0) (fcons (f2 addD (nb 7) (kc (.int 1))) fnil))) (f1 listD (nb 5)))))))))
noncomputable def c__law_right : List D → Option D := callD ["_law_board", "_law_rows", "_law_point_here", "_law_numbers", "_law_sheet_here", "_law_due", "_law_number", "_law_k"] 3 F__law_right
theorem st__law_right (x0 x1 x2 : D) : c__law_right [x0, x1, x2] = endD (F__law_right [.sh x0, .sh x1, .sh x2, .no, .no, .no, .no, .no]) := callD_eq rfl
/-! ### parts of the law -/
noncomputable def L_G1 : Env → Option Res :=
  (sseq (sown 2 (kc (.dci [])))
  (sset 3 (kc (.int 0))))
noncomputable def L_T1 : Env → Option Bool :=
  (tand (tb (f2 gtD (f2 modD (nb 5) (kc (.int 3))) (kc (.int 0)))) (tb (f2 ltD (f1 lenI (nb 2)) (kc (.int 5)))))
noncomputable def L_G2 : Env → Option Res :=
  (sset 6 (fN c__law_piece (fcons (f2 fdivD (nb 5) (kc (.int 3))) (fcons (kc (.int 9)) fnil))))
noncomputable def L_G3 : Env → Option Res :=
  (sseq (sif (tor (tnot (tv (fN c__law_whole (fcons (nm 7) fnil)))) (tb (f2 neD (nb 7) (nb 3))))
  (sret (kc (.bl false)))
  snx)
  (sseq (sputI 2 (nm 3) (nm 6))
  (sset 3 (f2 addD (nb 3) (kc (.int 1))))))
noncomputable def L_G4 : Env → Option Res :=
  (sseq (sset 8 (f2 subD (fN c__law_mix (fcons (nm 5) (fcons (kc (.int 9887)) (fcons (f2 addD (nb 3) (kc (.int 2))) fnil)))) (f1 intD (f2 eqD (f2 modD (nb 5) (kc (.int 5))) (kc (.int 0))))))
  (sset 9 (f2 ixD (fN lstD (fcons (kc .non) (fcons (kc (.str "no piece")) fnil))) (f1 intD (f2 ninD (nb 8) (nb 2))))))
noncomputable def L_G5 : Env → Option Res :=
  (sfrz 2 (sown 2 (f1 dictI (lcF [10] (iseq (nm 2)) (.one 10) (tb (f2 neD (nb 10) (nb 8))) (fN tupD (fcons (nm 10) (fcons (f2 ixD (nb 2) (nb 10)) fnil)))))))
noncomputable def L_E6 : Env → Option D :=
  (fN c__law_point (fcons (f2 addD (nb 5) (nb 4)) (fcons (kc (.int 9)) fnil)))
end Pv
set_option Elab.async false
set_option linter.all false
set_option maxRecDepth 100000
set_option maxHeartbeats 4000000
set_option autoImplicit false
namespace Pv
open PySem PySem.Spec PyProof.Rows L2
/-! ### the text by places; the derivations (printed by gen.py) -/
def topS (i : Nat) : Stmt := PySem.Challenge.pw_ringlayers_k08_whole_boards.main.body.getD i (.Pass ⟨0, 0, 0, 0⟩)
structure Bl (Γ : Gam) : Prop where
  ValueError : Γ.mg "ValueError" = none
  abs : Γ.mg "abs" = none
  bool : Γ.mg "bool" = none
  dict : Γ.mg "dict" = none
  enumerate : Γ.mg "enumerate" = none
  int : Γ.mg "int" = none
  isinstance : Γ.mg "isinstance" = none
  len : Γ.mg "len" = none
  list : Γ.mg "list" = none
  range : Γ.mg "range" = none
  set : Γ.mg "set" = none
  sorted : Γ.mg "sorted" = none
  sum : Γ.mg "sum" = none
  tuple : Γ.mg "tuple" = none
abbrev s_common : Stmt := topS 2
theorem sc_common : FnScope ["a", "b"] ["a", "b"] (defScope s_common) := ⟨rfl, rfl, rfl, by decide +kernel, rfl, by decide +kernel, by decide +kernel⟩
theorem ok_common {Γ : Gam} (B : Bl Γ) {f : Addr} {fd : FuncData} (Fn : Fun Γ.K "common" "common" s_common f fd) (hm : Γ.mg "common" = some (.ref f)) : HasD (Γ.at 1) "common" c_common := by
  refine hasD (Γ := Γ) (k := 0) (F := F_common) (ps := ["a", "b"]) Fn hm (Fn.binds (ps := ["a", "b"]) fun _ _ _ _ _ _ us hl => match us, hl with | [_, _], _ => rfl) sc_common ?_
  delta F_common
  exact (ss_cons (s_while (t_c (d_ne (d_nb (i := 1) rfl rfl (by decide) (by decide)) d_int))
  (ss_one (s_par (i := 0) (j := 1) sc_common.nd rfl rfl (by decide) rfl rfl (d_nm (i := 1) rfl rfl (by decide) (by decide)) (d_mod (d_nb (i := 0) rfl rfl (by decide) (by decide)) (d_nb (i := 1) rfl rfl (by decide) (by decide))) (by intro env h; cases env; simp only at h; subst h; rfl))))
  (ss_one (s_ret (d_abs rfl B.abs (d_nb (i := 0) rfl rfl (by decide) (by decide))))))
abbrev s_is_more : Stmt := topS 5
theorem sc_is_more : FnScope ["one", "other"] ["one", "other"] (defScope s_is_more) := ⟨rfl, rfl, rfl, by decide +kernel, rfl, by decide +kernel, by decide +kernel⟩
theorem ok_is_more {Γ : Gam} (B : Bl Γ) {f : Addr} {fd : FuncData} (Fn : Fun Γ.K "is_more" "is_more" s_is_more f fd) (hm : Γ.mg "is_more" = some (.ref f)) : HasD (Γ.at 1) "is_more" c_is_more := by
  refine hasD (Γ := Γ) (k := 0) (F := F_is_more) (ps := ["one", "other"]) Fn hm (Fn.binds (ps := ["one", "other"]) fun _ _ _ _ _ _ us hl => match us, hl with | [_, _], _ => rfl) sc_is_more ?_
  delta F_is_more
  exact (ss_one (s_ret (DC.toE (d_gt (d_mul (d_ix (d_nb (i := 0) rfl rfl (by decide) (by decide)) d_int) (d_ix (d_nb (i := 1) rfl rfl (by decide) (by decide)) d_int)) (d_mul (d_ix (d_nb (i := 1) rfl rfl (by decide) (by decide)) d_int) (d_ix (d_nb (i := 0) rfl rfl (by decide) (by decide)) d_int))))))
abbrev s_Net_width : Stmt := inClass (topS 11) 2
theorem sc_Net_width : FnScope ["self", "n"] ["self", "n"] (defScope s_Net_width) := ⟨rfl, rfl, rfl, by decide +kernel, rfl, by decide +kernel, by decide +kernel⟩
theorem ok_Net_width {Γ : Gam} (B : Bl Γ) {f : Addr} {fd : FuncData} (Fn : Fun Γ.K "width" "Net.width" s_Net_width f fd) (hm : Meth Γ.K Γ.C "width" f) (C : NetC (Γ.at 0)) : HasM (Γ.at 1) "width" c_Net_width := by
  refine ⟨fun _ _ _ => rfl, 1, f, fd, ["self", "n"], Nat.le_refl _, hm, Fn.binds (ps := ["self", "n"]) (fun _ _ _ _ _ _ us hl => match us, hl with | [_, _], _ => rfl), fnD (Γ := Γ.at 0) Fn sc_Net_width (F := F_Net_width) ?_⟩
  delta F_Net_width
  exact (ss_cons (s_if (t_c (d_lt (d_add (d_nb (i := 1) rfl rfl (by decide) (by decide)) d_int) (d_len rfl B.len (d_turns C (d_nb (i := 0) rfl rfl (by decide) (by decide))))))
  (ss_one (s_ret (d_sub (d_ix (d_turns C (d_nb (i := 0) rfl rfl (by decide) (by decide))) (d_add (d_nb (i := 1) rfl rfl (by decide) (by decide)) d_int)) (d_ix (d_turns C (d_nb (i := 0) rfl rfl (by decide) (by decide))) (d_nb (i := 1) rfl rfl (by decide) (by decide))))))
  ss_nil)
  (ss_one (s_ret (d_sub d_int (d_ix (d_turns C (d_nb (i := 0) rfl rfl (by decide) (by decide))) (d_nb (i := 1) rfl rfl (by decide) (by decide)))))))
abbrev s_Net_bounded : Stmt := inClass (topS 11) 6
theorem sc_Net_bounded : FnScope ["self", "cell"] ["self"] (defScope s_Net_bounded) := ⟨rfl, rfl, rfl, by decide +kernel, rfl, by decide +kernel, by decide +kernel⟩
theorem ok_Net_bounded {Γ : Gam} (B : Bl Γ) {f : Addr} {fd : FuncData} (Fn : Fun Γ.K "bounded" "Net.bounded" s_Net_bounded f fd) (hm : Meth Γ.K Γ.C "bounded" f) (C : NetC (Γ.at 0)) : HasM (Γ.at 1) "bounded" c_Net_bounded := by
  refine ⟨fun _ _ _ => rfl, 1, f, fd, ["self"], Nat.le_refl _, hm, Fn.binds (ps := ["self"]) (fun _ _ _ _ _ _ us hl => match us, hl with | [_], _ => rfl), fnD (Γ := Γ.at 0) Fn sc_Net_bounded (F := F_Net_bounded) ?_⟩
  delta F_Net_bounded
  exact (ss_one (s_ret (DV.toE (DL.f (d_lc (own := [("cell", 1)]) sc_Net_bounded.nd (by decide +kernel) (i_seq (d_inside C (d_nb (i := 0) rfl rfl (by decide) (by decide)))) (g_one (i := 1) sc_Net_bounded.nd rfl rfl) (by decide) (ts_one (t_c (d_lt (d_add (d_ix (d_nb (i := 1) rfl rfl (by decide) (by decide)) d_int) d_int) (d_len rfl B.len (d_fars C (d_nb (i := 0) rfl rfl (by decide) (by decide))))))) (d_nm (i := 1) rfl rfl (by decide) (by decide)))))))
abbrev s_half : Stmt := topS 12
theorem sc_half : FnScope ["number"] ["number"] (defScope s_half) := ⟨rfl, rfl, rfl, by decide +kernel, rfl, by decide +kernel, by decide +kernel⟩
theorem ok_half {Γ : Gam} (B : Bl Γ) {f : Addr} {fd : FuncData} (Fn : Fun Γ.K "half" "half" s_half f fd) (hm : Γ.mg "half" = some (.ref f)) : HasD (Γ.at 1) "half" c_half := by
  refine hasD (Γ := Γ) (k := 0) (F := F_half) (ps := ["number"]) Fn hm (Fn.binds (ps := ["number"]) fun _ _ _ _ _ _ us hl => match us, hl with | [_], _ => rfl) sc_half ?_
  delta F_half
  exact (ss_cons (s_if (t_c (d_eq (d_mod (d_nb (i := 0) rfl rfl (by decide) (by decide)) d_int) d_int))
  (ss_one (s_ret (d_tup (a_cons (d_fdiv (d_nb (i := 0) rfl rfl (by decide) (by decide)) d_int) (a_cons d_int a_nil)))))
  ss_nil)
  (ss_one (s_ret (d_tup (a_cons (d_nm (i := 0) rfl rfl (by decide) (by decide)) (a_cons d_int a_nil))))))
abbrev s__law_mix : Stmt := topS 24
theorem sc__law_mix : FnScope ["_law_cell_here", "_law_prime", "_law_many"] ["_law_cell_here", "_law_prime", "_law_many"] (defScope s__law_mix) := ⟨rfl, rfl, rfl, by decide +kernel, rfl, by decide +kernel, by decide +kernel⟩
theorem ok__law_mix {Γ : Gam} (B : Bl Γ) {f : Addr} {fd : FuncData} (Fn : Fun Γ.K "_law_mix" "_law_mix" s__law_mix f fd) (hm : Γ.mg "_law_mix" = some (.ref f)) : HasD (Γ.at 1) "_law_mix" c__law_mix := by
  refine hasD (Γ := Γ) (k := 0) (F := F__law_mix) (ps := ["_law_cell_here", "_law_prime", "_law_many"]) Fn hm (Fn.binds (ps := ["_law_cell_here", "_law_prime", "_law_many"]) fun _ _ _ _ _ _ us hl => match us, hl with | [_, _, _], _ => rfl) sc__law_mix ?_
  delta F__law_mix
  exact (ss_one (s_ret (d_mod (d_mod (d_mul (d_nb (i := 0) rfl rfl (by decide) (by decide)) d_int) (d_nb (i := 1) rfl rfl (by decide) (by decide))) (d_nb (i := 2) rfl rfl (by decide) (by decide)))))
abbrev s__law_fraction : Stmt := topS 27
theorem sc__law_fraction : FnScope ["_law_upper", "_law_lower", "_law_one", "_law_other"] ["_law_upper", "_law_lower"] (defScope s__law_fraction) := ⟨rfl, rfl, rfl, by decide +kernel, rfl, by decide +kernel, by decide +kernel⟩
theorem ok__law_fraction {Γ : Gam} (B : Bl Γ) {f : Addr} {fd : FuncData} (Fn : Fun Γ.K "_law_fraction" "_law_fraction" s__law_fraction f fd) (hm : Γ.mg "_law_fraction" = some (.ref f)) : HasD (Γ.at 1) "_law_fraction" c__law_fraction := by
  refine hasD (Γ := Γ) (k := 0) (F := F__law_fraction) (ps := ["_law_upper", "_law_lower"]) Fn hm (Fn.binds (ps := ["_law_upper", "_law_lower"]) fun _ _ _ _ _ _ us hl => match us, hl with | [_, _], _ => rfl) sc__law_fraction ?_
  delta F__law_fraction
  exact (ss_cons (s_set (i := 2) sc__law_fraction.nd rfl rfl (d_abs rfl B.abs (d_nb (i := 0) rfl rfl (by decide) (by decide))))
  (ss_cons (s_set (i := 3) sc__law_fraction.nd rfl rfl (d_nm (i := 1) rfl rfl (by decide) (by decide)))
  (ss_cons (s_while (t_c (d_gt (d_nb (i := 3) rfl rfl (by decide) (by decide)) d_int))
  (ss_one (s_par (i := 2) (j := 3) sc__law_fraction.nd rfl rfl (by decide) rfl rfl (d_nm (i := 3) rfl rfl (by decide) (by decide)) (d_mod (d_nb (i := 2) rfl rfl (by decide) (by decide)) (d_nb (i := 3) rfl rfl (by decide) (by decide))) (by intro env h; cases env; simp only at h; subst h; rfl))))
  (ss_one (s_ret (d_tup (a_cons (d_fdiv (d_nb (i := 0) rfl rfl (by decide) (by decide)) (d_nb (i := 2) rfl rfl (by decide) (by decide))) (a_cons (d_fdiv (d_nb (i := 1) rfl rfl (by decide) (by decide)) (d_nb (i := 2) rfl rfl (by decide) (by decide))) a_nil))))))))
abbrev s__law_has : Stmt := topS 29
theorem sc__law_has : FnScope ["_law_piece_here", "_law_far", "_law_turn", "_law_inner", "_law_outer", "_law_begin", "_law_wide"] ["_law_piece_here", "_law_far", "_law_turn"] (defScope s__law_has) := ⟨rfl, rfl, rfl, by decide +kernel, rfl, by decide +kernel, by decide +kernel⟩
theorem ok__law_has {Γ : Gam} (B : Bl Γ) {f : Addr} {fd : FuncData} (Fn : Fun Γ.K "_law_has" "_law_has" s__law_has f fd) (hm : Γ.mg "_law_has" = some (.ref f)) : HasD (Γ.at 1) "_law_has" c__law_has := by
  refine hasD (Γ := Γ) (k := 0) (F := F__law_has) (ps := ["_law_piece_here", "_law_far", "_law_turn"]) Fn hm (Fn.binds (ps := ["_law_piece_here", "_law_far", "_law_turn"]) fun _ _ _ _ _ _ us hl => match us, hl with | [_, _, _], _ => rfl) sc__law_has ?_
  delta F__law_has
  exact (ss_cons (s_bind (d_nm (i := 0) rfl rfl (by decide) (by decide)) (g_tup (gs_cons (i := 3) sc__law_has.nd rfl rfl (gs_cons (i := 4) sc__law_has.nd rfl rfl (gs_cons (i := 5) sc__law_has.nd rfl rfl (gs_cons (i := 6) sc__law_has.nd rfl rfl gs_nil))))))
  (ss_cons (s_if (DW.t (w_or (t_c (d_lt (d_ix (d_nb (i := 1) rfl rfl (by decide) (by decide)) d_int) (d_mul (d_nb (i := 3) rfl rfl (by decide) (by decide)) (d_ix (d_nb (i := 1) rfl rfl (by decide) (by decide)) d_int)))) (w_or1 (t_c (d_ge (d_ix (d_nb (i := 1) rfl rfl (by decide) (by decide)) d_int) (d_mul (d_nb (i := 4) rfl rfl (by decide) (by decide)) (d_ix (d_nb (i := 1) rfl rfl (by decide) (by decide)) d_int)))))))
  (ss_one (s_ret d_bl))
  ss_nil)
  (ss_one (s_ret (DC.toE (d_lt (d_mod (d_sub (d_ix (d_nb (i := 2) rfl rfl (by decide) (by decide)) d_int) (d_mul (d_nb (i := 5) rfl rfl (by decide) (by decide)) (d_ix (d_nb (i := 2) rfl rfl (by decide) (by decide)) d_int))) (d_mul d_int (d_ix (d_nb (i := 2) rfl rfl (by decide) (by decide)) d_int))) (d_mul (d_nb (i := 6) rfl rfl (by decide) (by decide)) (d_ix (d_nb (i := 2) rfl rfl (by decide) (by decide)) d_int))))))))
abbrev s__law_whole : Stmt := topS 31
theorem sc__law_whole : FnScope ["_law_found"] ["_law_found"] (defScope s__law_whole) := ⟨rfl, rfl, rfl, by decide +kernel, rfl, by decide +kernel, by decide +kernel⟩
theorem ok__law_whole {Γ : Gam} (B : Bl Γ) {f : Addr} {fd : FuncData} (Fn : Fun Γ.K "_law_whole" "_law_whole" s__law_whole f fd) (hm : Γ.mg "_law_whole" = some (.ref f)) : HasD (Γ.at 1) "_law_whole" c__law_whole := by
  refine hasD (Γ := Γ) (k := 0) (F := F__law_whole) (ps := ["_law_found"]) Fn hm (Fn.binds (ps := ["_law_found"]) fun _ _ _ _ _ _ us hl => match us, hl with | [_], _ => rfl) sc__law_whole ?_
  delta F__law_whole
  exact (ss_one (s_ret (d_and (d_isInt rfl B.isinstance rfl B.int (d_nb (i := 0) rfl rfl (by decide) (by decide))) (d_one (d_notv (d_isBool rfl B.isinstance rfl B.bool (d_nb (i := 0) rfl rfl (by decide) (by decide))))))))
abbrev s_fraction : Stmt := topS 3
theorem sc_fraction : FnScope ["upper", "lower", "by"] ["upper", "lower"] (defScope s_fraction) := ⟨rfl, rfl, rfl, by decide +kernel, rfl, by decide +kernel, by decide +kernel⟩
theorem ok_fraction {Γ : Gam} (B : Bl Γ) {f : Addr} {fd : FuncData} (Fn : Fun Γ.K "fraction" "fraction" s_fraction f fd) (hm : Γ.mg "fraction" = some (.ref f)) (h_common : HasD (Γ.at 1) "common" c_common) : HasD (Γ.at 2) "fraction" c_fraction := by
  refine hasD (Γ := Γ) (k := 1) (F := F_fraction) (ps := ["upper", "lower"]) Fn hm (Fn.binds (ps := ["upper", "lower"]) fun _ _ _ _ _ _ us hl => match us, hl with | [_, _], _ => rfl) sc_fraction ?_
  delta F_fraction
  exact (ss_cons (s_if (t_c (d_lt (d_nb (i := 1) rfl rfl (by decide) (by decide)) d_int))
  (ss_cons (s_set (i := 0) sc_fraction.nd rfl rfl (d_neg (d_nb (i := 0) rfl rfl (by decide) (by decide))))
  (ss_one (s_set (i := 1) sc_fraction.nd rfl rfl (d_neg (d_nb (i := 1) rfl rfl (by decide) (by decide))))))
  ss_nil)
  (ss_cons (s_set (i := 2) sc_fraction.nd rfl rfl (d_call h_common rfl (by decide) (a_cons (d_nm (i := 0) rfl rfl (by decide) (by decide)) (a_cons (d_nm (i := 1) rfl rfl (by decide) (by decide)) a_nil))))
  (ss_one (s_ret (d_tup (a_cons (d_fdiv (d_nb (i := 0) rfl rfl (by decide) (by decide)) (d_nb (i := 2) rfl rfl (by decide) (by decide))) (a_cons (d_fdiv (d_nb (i := 1) rfl rfl (by decide) (by decide)) (d_nb (i := 2) rfl rfl (by decide) (by decide))) a_nil)))))))
abbrev s_Net_point_in : Stmt := inClass (topS 11) 1
theorem sc_Net_point_in : FnScope ["self", "cell", "k", "n", "far"] ["self", "cell"] (defScope s_Net_point_in) := ⟨rfl, rfl, rfl, by decide +kernel, rfl, by decide +kernel, by decide +kernel⟩
theorem ok_Net_point_in {Γ : Gam} (B : Bl Γ) {f : Addr} {fd : FuncData} (Fn : Fun Γ.K "point_in" "Net.point_in" s_Net_point_in f fd) (hm : Meth Γ.K Γ.C "point_in" f) (C : NetC (Γ.at 1)) (h_half : HasD (Γ.at 1) "half" c_half) (m_width : HasM (Γ.at 1) "width" c_Net_width) : HasM (Γ.at 2) "point_in" c_Net_point_in := by
  refine ⟨fun _ _ _ => rfl, 2, f, fd, ["self", "cell"], Nat.le_refl _, hm, Fn.binds (ps := ["self", "cell"]) (fun _ _ _ _ _ _ us hl => match us, hl with | [_, _], _ => rfl), fnD (Γ := Γ.at 1) Fn sc_Net_point_in (F := F_Net_point_in) ?_⟩
  delta F_Net_point_in
  exact (ss_cons (s_bind (d_nm (i := 1) rfl rfl (by decide) (by decide)) (g_tup (gs_cons (i := 2) sc_Net_point_in.nd rfl rfl (gs_cons (i := 3) sc_Net_point_in.nd rfl rfl gs_nil))))
  (ss_cons (s_set (i := 4) sc_Net_point_in.nd rfl rfl (d_tup (a_cons (d_add (d_ix (d_fars C (d_nb (i := 0) rfl rfl (by decide) (by decide))) (d_nb (i := 2) rfl rfl (by decide) (by decide))) d_int) (a_cons d_int a_nil))))
  (ss_cons (s_if (t_c (d_lt (d_add (d_nb (i := 2) rfl rfl (by decide) (by decide)) d_int) (d_len rfl B.len (d_fars C (d_nb (i := 0) rfl rfl (by decide) (by decide))))))
  (ss_one (s_set (i := 4) sc_Net_point_in.nd rfl rfl (d_call h_half rfl (by decide) (a_cons (d_add (d_ix (d_fars C (d_nb (i := 0) rfl rfl (by decide) (by decide))) (d_nb (i := 2) rfl rfl (by decide) (by decide))) (d_ix (d_fars C (d_nb (i := 0) rfl rfl (by decide) (by decide))) (d_add (d_nb (i := 2) rfl rfl (by decide) (by decide)) d_int))) a_nil))))
  ss_nil)
  (ss_one (s_ret (d_tup (a_cons (d_nm (i := 4) rfl rfl (by decide) (by decide)) (a_cons (d_call h_half rfl (by decide) (a_cons (d_add (d_mul d_int (d_ix (d_turns C (d_nb (i := 0) rfl rfl (by decide) (by decide))) (d_nb (i := 3) rfl rfl (by decide) (by decide)))) (d_meth C m_width (d_nb (i := 0) rfl rfl (by decide) (by decide)) (a_cons (d_nm (i := 3) rfl rfl (by decide) (by decide)) a_nil))) a_nil)) a_nil))))))))
abbrev s_Net_area : Stmt := inClass (topS 11) 3
theorem sc_Net_area : FnScope ["self", "cell", "k", "n"] ["self", "cell"] (defScope s_Net_area) := ⟨rfl, rfl, rfl, by decide +kernel, rfl, by decide +kernel, by decide +kernel⟩
theorem ok_Net_area {Γ : Gam} (B : Bl Γ) {f : Addr} {fd : FuncData} (Fn : Fun Γ.K "area" "Net.area" s_Net_area f fd) (hm : Meth Γ.K Γ.C "area" f) (C : NetC (Γ.at 1)) (m_width : HasM (Γ.at 1) "width" c_Net_width) : HasM (Γ.at 2) "area" c_Net_area := by
  refine ⟨fun _ _ _ => rfl, 2, f, fd, ["self", "cell"], Nat.le_refl _, hm, Fn.binds (ps := ["self", "cell"]) (fun _ _ _ _ _ _ us hl => match us, hl with | [_, _], _ => rfl), fnD (Γ := Γ.at 1) Fn sc_Net_area (F := F_Net_area) ?_⟩
  delta F_Net_area
  exact (ss_cons (s_bind (d_nm (i := 1) rfl rfl (by decide) (by decide)) (g_tup (gs_cons (i := 2) sc_Net_area.nd rfl rfl (gs_cons (i := 3) sc_Net_area.nd rfl rfl gs_nil))))
  (ss_cons (s_if (t_c (d_eq (d_add (d_nb (i := 2) rfl rfl (by decide) (by decide)) d_int) (d_len rfl B.len (d_fars C (d_nb (i := 0) rfl rfl (by decide) (by decide))))))
  (ss_one (s_ret d_non))
  ss_nil)
  (ss_one (s_ret (d_mul (d_sub (d_mul (d_ix (d_fars C (d_nb (i := 0) rfl rfl (by decide) (by decide))) (d_add (d_nb (i := 2) rfl rfl (by decide) (by decide)) d_int)) (d_ix (d_fars C (d_nb (i := 0) rfl rfl (by decide) (by decide))) (d_add (d_nb (i := 2) rfl rfl (by decide) (by decide)) d_int))) (d_mul (d_ix (d_fars C (d_nb (i := 0) rfl rfl (by decide) (by decide))) (d_nb (i := 2) rfl rfl (by decide) (by decide))) (d_ix (d_fars C (d_nb (i := 0) rfl rfl (by decide) (by decide))) (d_nb (i := 2) rfl rfl (by decide) (by decide))))) (d_meth C m_width (d_nb (i := 0) rfl rfl (by decide) (by decide)) (a_cons (d_nm (i := 3) rfl rfl (by decide) (by decide)) a_nil)))))))
abbrev s__law_piece : Stmt := topS 25
theorem sc__law_piece : FnScope ["_law_cell_here", "_law_most", "_law_inner", "_law_outer", "_law_wide"] ["_law_cell_here", "_law_most"] (defScope s__law_piece) := ⟨rfl, rfl, rfl, by decide +kernel, rfl, by decide +kernel, by decide +kernel⟩
theorem ok__law_piece {Γ : Gam} (B : Bl Γ) {f : Addr} {fd : FuncData} (Fn : Fun Γ.K "_law_piece" "_law_piece" s__law_piece f fd) (hm : Γ.mg "_law_piece" = some (.ref f)) (h__law_mix : HasD (Γ.at 1) "_law_mix" c__law_mix) : HasD (Γ.at 2) "_law_piece" c__law_piece := by
  refine hasD (Γ := Γ) (k := 1) (F := F__law_piece) (ps := ["_law_cell_here", "_law_most"]) Fn hm (Fn.binds (ps := ["_law_cell_here", "_law_most"]) fun _ _ _ _ _ _ us hl => match us, hl with | [_, _], _ => rfl) sc__law_piece ?_
  delta F__law_piece
  exact (ss_cons (s_set (i := 2) sc__law_piece.nd rfl rfl (d_call h__law_mix rfl (by decide) (a_cons (d_nm (i := 0) rfl rfl (by decide) (by decide)) (a_cons d_int (a_cons (d_nm (i := 1) rfl rfl (by decide) (by decide)) a_nil)))))
  (ss_cons (s_set (i := 3) sc__law_piece.nd rfl rfl (d_add (d_add (d_nb (i := 2) rfl rfl (by decide) (by decide)) d_int) (d_call h__law_mix rfl (by decide) (a_cons (d_nm (i := 0) rfl rfl (by decide) (by decide)) (a_cons d_int (a_cons (d_sub (d_nb (i := 1) rfl rfl (by decide) (by decide)) (d_nb (i := 2) rfl rfl (by decide) (by decide))) a_nil))))))
  (ss_cons (s_set (i := 4) sc__law_piece.nd rfl rfl (d_add d_int (d_call h__law_mix rfl (by decide) (a_cons (d_nm (i := 0) rfl rfl (by decide) (by decide)) (a_cons d_int (a_cons d_int a_nil))))))
  (ss_cons (s_if (t_c (d_eq (d_mod (d_nb (i := 0) rfl rfl (by decide) (by decide)) d_int) d_int))
  (ss_one (s_set (i := 4) sc__law_piece.nd rfl rfl d_int))
  ss_nil)
  (ss_one (s_ret (d_tup (a_cons (d_nm (i := 2) rfl rfl (by decide) (by decide)) (a_cons (d_nm (i := 3) rfl rfl (by decide) (by decide)) (a_cons (d_call h__law_mix rfl (by decide) (a_cons (d_nm (i := 0) rfl rfl (by decide) (by decide)) (a_cons d_int (a_cons d_int a_nil)))) (a_cons (d_nm (i := 4) rfl rfl (by decide) (by decide)) a_nil)))))))))))
abbrev s__law_point : Stmt := topS 28
theorem sc__law_point : FnScope ["_law_cell_here", "_law_most", "_law_far"] ["_law_cell_here", "_law_most"] (defScope s__law_point) := ⟨rfl, rfl, rfl, by decide +kernel, rfl, by decide +kernel, by decide +kernel⟩
theorem ok__law_point {Γ : Gam} (B : Bl Γ) {f : Addr} {fd : FuncData} (Fn : Fun Γ.K "_law_point" "_law_point" s__law_point f fd) (hm : Γ.mg "_law_point" = some (.ref f)) (h__law_fraction : HasD (Γ.at 1) "_law_fraction" c__law_fraction) (h__law_mix : HasD (Γ.at 1) "_law_mix" c__law_mix) : HasD (Γ.at 2) "_law_point" c__law_point := by
  refine hasD (Γ := Γ) (k := 1) (F := F__law_point) (ps := ["_law_cell_here", "_law_most"]) Fn hm (Fn.binds (ps := ["_law_cell_here", "_law_most"]) fun _ _ _ _ _ _ us hl => match us, hl with | [_, _], _ => rfl) sc__law_point ?_
  delta F__law_point
  exact (ss_cons (s_set (i := 2) sc__law_point.nd rfl rfl (d_call h__law_fraction rfl (by decide) (a_cons (d_add d_int (d_call h__law_mix rfl (by decide) (a_cons (d_nm (i := 0) rfl rfl (by decide) (by decide)) (a_cons d_int (a_cons (d_add (d_mul d_int (d_nb (i := 1) rfl rfl (by decide) (by decide))) d_int) a_nil))))) (a_cons d_int a_nil))))
  (ss_one (s_ret (d_tup (a_cons (d_nm (i := 2) rfl rfl (by decide) (by decide)) (a_cons (d_call h__law_fraction rfl (by decide) (a_cons (d_call h__law_mix rfl (by decide) (a_cons (d_nm (i := 0) rfl rfl (by decide) (by decide)) (a_cons d_int (a_cons d_int a_nil)))) (a_cons d_int a_nil))) a_nil))))))
abbrev s__law_layers : Stmt := topS 30
theorem sc__law_layers : FnScope ["_law_sheet_here", "_law_point_here", "_law_k", "_law_piece_here"] ["_law_sheet_here", "_law_point_here"] (defScope s__law_layers) := ⟨rfl, rfl, rfl, by decide +kernel, rfl, by decide +kernel, by decide +kernel⟩
theorem ok__law_layers {Γ : Gam} (B : Bl Γ) {f : Addr} {fd : FuncData} (Fn : Fun Γ.K "_law_layers" "_law_layers" s__law_layers f fd) (hm : Γ.mg "_law_layers" = some (.ref f)) (h__law_has : HasD (Γ.at 1) "_law_has" c__law_has) : HasD (Γ.at 2) "_law_layers" c__law_layers := by
  refine hasD (Γ := Γ) (k := 1) (F := F__law_layers) (ps := ["_law_sheet_here", "_law_point_here"]) Fn hm (Fn.binds (ps := ["_law_sheet_here", "_law_point_here"]) fun _ _ _ _ _ _ us hl => match us, hl with | [_, _], _ => rfl) sc__law_layers ?_
  delta F__law_layers
  exact (ss_one (s_ret (d_tuple rfl B.tuple (DL.f (d_lc (own := [("_law_k", 2), ("_law_piece_here", 3)]) sc__law_layers.nd (by decide +kernel) (i_enum rfl B.enumerate (d_nm (i := 0) rfl rfl (by decide) (by decide))) (g_tup (gs_cons (i := 2) sc__law_layers.nd rfl rfl (gs_cons (i := 3) sc__law_layers.nd rfl rfl gs_nil))) (by decide) (ts_one (t_v (d_call h__law_has rfl (by decide) (a_cons (d_nm (i := 3) rfl rfl (by decide) (by decide)) (a_cons (d_ix (d_nb (i := 1) rfl rfl (by decide) (by decide)) d_int) (a_cons (d_ix (d_nb (i := 1) rfl rfl (by decide) (by decide)) d_int) a_nil)))))) (d_nm (i := 2) rfl rfl (by decide) (by decide)))))))
abbrev s_less : Stmt := topS 4
theorem sc_less : FnScope ["one", "other"] ["one", "other"] (defScope s_less) := ⟨rfl, rfl, rfl, by decide +kernel, rfl, by decide +kernel, by decide +kernel⟩
theorem ok_less {Γ : Gam} (B : Bl Γ) {f : Addr} {fd : FuncData} (Fn : Fun Γ.K "less" "less" s_less f fd) (hm : Γ.mg "less" = some (.ref f)) (h_fraction : HasD (Γ.at 2) "fraction" c_fraction) : HasD (Γ.at 3) "less" c_less := by
  refine hasD (Γ := Γ) (k := 2) (F := F_less) (ps := ["one", "other"]) Fn hm (Fn.binds (ps := ["one", "other"]) fun _ _ _ _ _ _ us hl => match us, hl with | [_, _], _ => rfl) sc_less ?_
  delta F_less
  exact (ss_one (s_ret (d_call h_fraction rfl (by decide) (a_cons (d_sub (d_mul (d_ix (d_nb (i := 0) rfl rfl (by decide) (by decide)) d_int) (d_ix (d_nb (i := 1) rfl rfl (by decide) (by decide)) d_int)) (d_mul (d_ix (d_nb (i := 1) rfl rfl (by decide) (by decide)) d_int) (d_ix (d_nb (i := 0) rfl rfl (by decide) (by decide)) d_int))) (a_cons (d_mul (d_ix (d_nb (i := 0) rfl rfl (by decide) (by decide)) d_int) (d_ix (d_nb (i := 1) rfl rfl (by decide) (by decide)) d_int)) a_nil)))))
abbrev s_on_round : Stmt := topS 6
theorem sc_on_round : FnScope ["one"] ["one"] (defScope s_on_round) := ⟨rfl, rfl, rfl, by decide +kernel, rfl, by decide +kernel, by decide +kernel⟩
theorem ok_on_round {Γ : Gam} (B : Bl Γ) {f : Addr} {fd : FuncData} (Fn : Fun Γ.K "on_round" "on_round" s_on_round f fd) (hm : Γ.mg "on_round" = some (.ref f)) (h_fraction : HasD (Γ.at 2) "fraction" c_fraction) : HasD (Γ.at 3) "on_round" c_on_round := by
  refine hasD (Γ := Γ) (k := 2) (F := F_on_round) (ps := ["one"]) Fn hm (Fn.binds (ps := ["one"]) fun _ _ _ _ _ _ us hl => match us, hl with | [_], _ => rfl) sc_on_round ?_
  delta F_on_round
  exact (ss_one (s_ret (d_call h_fraction rfl (by decide) (a_cons (d_mod (d_ix (d_nb (i := 0) rfl rfl (by decide) (by decide)) d_int) (d_mul d_int (d_ix (d_nb (i := 0) rfl rfl (by decide) (by decide)) d_int))) (a_cons (d_ix (d_nb (i := 0) rfl rfl (by decide) (by decide)) d_int) a_nil)))))
abbrev s_has : Stmt := topS 8
theorem sc_has : FnScope ["piece", "point", "inner", "outer", "begin", "wide", "far", "turn"] ["piece", "point"] (defScope s_has) := ⟨rfl, rfl, rfl, by decide +kernel, rfl, by decide +kernel, by decide +kernel⟩
theorem ok_has {Γ : Gam} (B : Bl Γ) {f : Addr} {fd : FuncData} (Fn : Fun Γ.K "has" "has" s_has f fd) (hm : Γ.mg "has" = some (.ref f)) (h_is_more : HasD (Γ.at 3) "is_more" c_is_more) (h_on_round : HasD (Γ.at 3) "on_round" c_on_round) (h_less : HasD (Γ.at 3) "less" c_less) : HasD (Γ.at 4) "has" c_has := by
  refine hasD (Γ := Γ) (k := 3) (F := F_has) (ps := ["piece", "point"]) Fn hm (Fn.binds (ps := ["piece", "point"]) fun _ _ _ _ _ _ us hl => match us, hl with | [_, _], _ => rfl) sc_has ?_
  delta F_has
  exact (ss_cons (s_bind (d_nm (i := 0) rfl rfl (by decide) (by decide)) (g_tup (gs_cons (i := 2) sc_has.nd rfl rfl (gs_cons (i := 3) sc_has.nd rfl rfl (gs_cons (i := 4) sc_has.nd rfl rfl (gs_cons (i := 5) sc_has.nd rfl rfl gs_nil))))))
  (ss_cons (s_bind (d_nm (i := 1) rfl rfl (by decide) (by decide)) (g_tup (gs_cons (i := 6) sc_has.nd rfl rfl (gs_cons (i := 7) sc_has.nd rfl rfl gs_nil))))
  (ss_cons (s_if (DW.t (w_or (t_v (d_call h_is_more rfl (by decide) (a_cons (d_tup (a_cons (d_nm (i := 2) rfl rfl (by decide) (by decide)) (a_cons d_int a_nil))) (a_cons (d_nm (i := 6) rfl rfl (by decide) (by decide)) a_nil)))) (w_or1 (t_not (t_v (d_call h_is_more rfl (by decide) (a_cons (d_tup (a_cons (d_nm (i := 3) rfl rfl (by decide) (by decide)) (a_cons d_int a_nil))) (a_cons (d_nm (i := 6) rfl rfl (by decide) (by decide)) a_nil))))))))
  (ss_one (s_ret d_bl))
  ss_nil)
  (ss_one (s_ret (d_call h_is_more rfl (by decide) (a_cons (d_tup (a_cons (d_nm (i := 5) rfl rfl (by decide) (by decide)) (a_cons d_int a_nil))) (a_cons (d_call h_on_round rfl (by decide) (a_cons (d_call h_less rfl (by decide) (a_cons (d_nm (i := 7) rfl rfl (by decide) (by decide)) (a_cons (d_tup (a_cons (d_nm (i := 4) rfl rfl (by decide) (by decide)) (a_cons d_int a_nil))) a_nil))) a_nil)) a_nil))))))))
abbrev s_layers : Stmt := topS 9
theorem sc_layers : FnScope ["sheet", "point", "number", "piece"] ["sheet", "point"] (defScope s_layers) := ⟨rfl, rfl, rfl, by decide +kernel, rfl, by decide +kernel, by decide +kernel⟩
theorem ok_layers {Γ : Gam} (B : Bl Γ) {f : Addr} {fd : FuncData} (Fn : Fun Γ.K "layers" "layers" s_layers f fd) (hm : Γ.mg "layers" = some (.ref f)) (h_has : HasD (Γ.at 4) "has" c_has) : HasD (Γ.at 5) "layers" c_layers := by
  refine hasD (Γ := Γ) (k := 4) (F := F_layers) (ps := ["sheet", "point"]) Fn hm (Fn.binds (ps := ["sheet", "point"]) fun _ _ _ _ _ _ us hl => match us, hl with | [_, _], _ => rfl) sc_layers ?_
  delta F_layers
  exact (ss_one (s_ret (d_tuple rfl B.tuple (DL.f (d_lc (own := [("number", 2), ("piece", 3)]) sc_layers.nd (by decide +kernel) (i_enum rfl B.enumerate (d_nm (i := 0) rfl rfl (by decide) (by decide))) (g_tup (gs_cons (i := 2) sc_layers.nd rfl rfl (gs_cons (i := 3) sc_layers.nd rfl rfl gs_nil))) (by decide) (ts_one (t_v (d_call h_has rfl (by decide) (a_cons (d_nm (i := 3) rfl rfl (by decide) (by decide)) (a_cons (d_nm (i := 1) rfl rfl (by decide) (by decide)) a_nil))))) (d_nm (i := 2) rfl rfl (by decide) (by decide)))))))
abbrev s_Net___init__ : Stmt := inClass (topS 11) 0
theorem sc_Net___init__ : FnScope ["self", "sheet", "fars", "turns", "inner", "outer", "begin", "wide", "k", "n"] ["self", "sheet"] (defScope s_Net___init__) := ⟨rfl, rfl, rfl, by decide +kernel, rfl, by decide +kernel, by decide +kernel⟩
theorem ok_Net___init__ {Γ : Gam} (B : Bl Γ) {f : Addr} {fd : FuncData} (Fn : Fun Γ.K "__init__" "Net.__init__" s_Net___init__ f fd) (g : Γ.mg "Net" = some (.ref Γ.C)) (mk : Mk Γ.K Γ.C f) (C : NetC (Γ.at 5)) (h_layers : HasD (Γ.at 5) "layers" c_layers) (m_point_in : HasM (Γ.at 5) "point_in" c_Net_point_in) : HasN (Γ.at 7) "Net" c_Net := by
  refine ⟨6, f, fd, ["self", "sheet"], Nat.le_refl _, g, mk, Fn.binds (ps := ["self", "sheet"]) (fun _ _ _ _ _ _ us hl => match us, hl with | [_, _], _ => rfl), net_init (Γ := Γ) (k := 5) (F1 := n_F1) (F2 := n_F2) (F3 := n_F3) (Ef := n_Ef) (Et := n_Et) (Ik := n_Ik) (In := n_In) (Kf := n_Kf) (Vf := n_Vf) (fun d n h x => anyX_e h x) Fn sc_Net___init__ C rfl rfl ?_ ?_ ?_ ?_ ?_ ?_ (g_one (i := 8) sc_Net___init__.nd rfl rfl) ?_ (g_one (i := 9) sc_Net___init__.nd rfl rfl) (by decide) (by decide) ?_ ?_⟩
  · delta n_F1
    exact (s_own (i := 2) sc_Net___init__.nd rfl rfl (d_lst (a_cons d_int a_nil)))
  · delta n_F2
    exact (s_own (i := 3) sc_Net___init__.nd rfl rfl (d_lst a_nil))
  · delta n_F3
    exact (s_for (i_seq (d_nm (i := 1) rfl rfl (by decide) (by decide))) (g_tup (gs_cons (i := 4) sc_Net___init__.nd rfl rfl (gs_cons (i := 5) sc_Net___init__.nd rfl rfl (gs_cons (i := 6) sc_Net___init__.nd rfl rfl (gs_cons (i := 7) sc_Net___init__.nd rfl rfl gs_nil)))))
  (ss_cons (s_ext (i := 2) rfl rfl (by decide) (by decide) (DV.toE (d_lst (a_cons (d_nm (i := 4) rfl rfl (by decide) (by decide)) (a_cons (d_nm (i := 5) rfl rfl (by decide) (by decide)) a_nil)))))
  (ss_one (s_ext (i := 3) rfl rfl (by decide) (by decide) (DV.toE (d_lst (a_cons (d_nm (i := 6) rfl rfl (by decide) (by decide)) (a_cons (d_mod (d_add (d_nb (i := 6) rfl rfl (by decide) (by decide)) (d_nb (i := 7) rfl rfl (by decide) (by decide))) d_int) a_nil))))))))
  · delta n_Ef
    exact (DV.toE (d_sortset rfl B.sorted rfl B.set (d_nb (i := 2) rfl rfl (by decide) (by decide))))
  · delta n_Et
    exact (DV.toE (d_sortset rfl B.sorted rfl B.set (d_add (d_nb (i := 3) rfl rfl (by decide) (by decide)) (d_lst (a_cons d_int a_nil)))))
  · delta n_Ik
    exact (i_range1 rfl B.range (d_len rfl B.len (d_fars C (d_nb (i := 0) rfl rfl (by decide) (by decide)))))
  · delta n_In
    exact (i_range1 rfl B.range (d_len rfl B.len (d_turns C (d_nb (i := 0) rfl rfl (by decide) (by decide)))))
  · delta n_Kf
    exact (d_tup (a_cons (d_nm (i := 8) rfl rfl (by decide) (by decide)) (a_cons (d_nm (i := 9) rfl rfl (by decide) (by decide)) a_nil)))
  · delta n_Vf
    exact (d_call h_layers rfl (by decide) (a_cons (d_nm (i := 1) rfl rfl (by decide) (by decide)) (a_cons (d_meth C m_point_in (d_nb (i := 0) rfl rfl (by decide) (by decide)) (a_cons (d_tup (a_cons (d_nm (i := 8) rfl rfl (by decide) (by decide)) (a_cons (d_nm (i := 9) rfl rfl (by decide) (by decide)) a_nil))) a_nil)) a_nil)))
abbrev s_depth_areas : Stmt := topS 14
theorem sc_depth_areas : FnScope ["sheet", "net", "found", "cell", "many", "piece"] ["sheet"] (defScope s_depth_areas) := ⟨rfl, rfl, rfl, by decide +kernel, rfl, by decide +kernel, by decide +kernel⟩
theorem ok_depth_areas {Γ : Gam} (B : Bl Γ) {f : Addr} {fd : FuncData} (Fn : Fun Γ.K "depth_areas" "depth_areas" s_depth_areas f fd) (hm : Γ.mg "depth_areas" = some (.ref f)) (C : NetC (Γ.at 7)) (h_Net : HasN (Γ.at 7) "Net" c_Net) (m_bounded : HasM (Γ.at 7) "bounded" c_Net_bounded) (m_area : HasM (Γ.at 7) "area" c_Net_area) : HasD (Γ.at 8) "depth_areas" c_depth_areas := by
  refine hasD (Γ := Γ) (k := 7) (F := F_depth_areas) (ps := ["sheet"]) Fn hm (Fn.binds (ps := ["sheet"]) fun _ _ _ _ _ _ us hl => match us, hl with | [_], _ => rfl) sc_depth_areas ?_
  delta F_depth_areas
  exact (ss_cons (s_set (i := 1) sc_depth_areas.nd rfl rfl (d_make h_Net rfl (by decide) (d_nm (i := 0) rfl rfl (by decide) (by decide))))
  (ss_cons (s_ownL (i := 2) sc_depth_areas.nd rfl rfl rfl (d_lc (own := [("piece", 5)]) sc_depth_areas.nd (by decide +kernel) (i_seq (d_nm (i := 0) rfl rfl (by decide) (by decide))) (g_one (i := 5) sc_depth_areas.nd rfl rfl) (by decide) ts_nil d_int))
  (ss_cons (s_for (i_seq (d_meth0 C m_bounded (d_nb (i := 1) rfl rfl (by decide) (by decide)))) (g_one (i := 3) sc_depth_areas.nd rfl rfl)
  (ss_cons (s_set (i := 4) sc_depth_areas.nd rfl rfl (d_len rfl B.len (d_ix (d_inside C (d_nb (i := 1) rfl rfl (by decide) (by decide))) (d_nb (i := 3) rfl rfl (by decide) (by decide)))))
  (ss_one (s_if (t_c (d_gt (d_nb (i := 4) rfl rfl (by decide) (by decide)) d_int))
  (ss_one (s_put (i := 2) rfl rfl (by decide) (by decide) (d_sub (d_nb (i := 4) rfl rfl (by decide) (by decide)) d_int) (d_add (d_ix (d_nb (i := 2) rfl rfl (by decide) (by decide)) (d_sub (d_nb (i := 4) rfl rfl (by decide) (by decide)) d_int)) (d_meth C m_area (d_nb (i := 1) rfl rfl (by decide) (by decide)) (a_cons (d_nm (i := 3) rfl rfl (by decide) (by decide)) a_nil)))))
  ss_nil))))
  (ss_one (s_ret (d_tuple rfl B.tuple (d_nb (i := 2) rfl rfl (by decide) (by decide))))))))
abbrev s_covered_area : Stmt := topS 15
theorem sc_covered_area : FnScope ["sheet"] ["sheet"] (defScope s_covered_area) := ⟨rfl, rfl, rfl, by decide +kernel, rfl, by decide +kernel, by decide +kernel⟩
theorem ok_covered_area {Γ : Gam} (B : Bl Γ) {f : Addr} {fd : FuncData} (Fn : Fun Γ.K "covered_area" "covered_area" s_covered_area f fd) (hm : Γ.mg "covered_area" = some (.ref f)) (h_depth_areas : HasD (Γ.at 8) "depth_areas" c_depth_areas) : HasD (Γ.at 9) "covered_area" c_covered_area := by
  refine hasD (Γ := Γ) (k := 8) (F := F_covered_area) (ps := ["sheet"]) Fn hm (Fn.binds (ps := ["sheet"]) fun _ _ _ _ _ _ us hl => match us, hl with | [_], _ => rfl) sc_covered_area ?_
  delta F_covered_area
  exact (ss_one (s_ret (d_sum rfl B.sum (d_call h_depth_areas rfl (by decide) (a_cons (d_nm (i := 0) rfl rfl (by decide) (by decide)) a_nil)))))
abbrev s_Board_numbers : Stmt := inClass (topS 21) 3
theorem sc_Board_numbers : FnScope ["self"] ["self"] (defScope s_Board_numbers) := ⟨rfl, rfl, rfl, by decide +kernel, rfl, by decide +kernel, by decide +kernel⟩
theorem ok_Board_numbers {Γ : Gam} (B : Bl Γ) {f : Addr} {fd : FuncData} (Fn : Fun Γ.K "numbers" "Board.numbers" s_Board_numbers f fd) (hm : Meth Γ.K (boardA Γ.K) "numbers" f) (R : BrdC (Γ.at 0)) : HasB (Γ.at 1) "numbers" c_Board_numbers := by
  refine ⟨fun _ _ => rfl, 1, f, fd, ["self"], Nat.le_refl _, hm, Fn.binds (ps := ["self"]) (fun _ _ _ _ _ _ us hl => match us, hl with | [_], _ => rfl), fnD (Γ := Γ.at 0) Fn sc_Board_numbers (F := F_Board_numbers) ?_⟩
  delta F_Board_numbers
  exact (ss_one (s_ret (d_tuple rfl B.tuple (d_sortedI rfl B.sorted (d_rows R (d_nb (i := 0) rfl rfl (by decide) (by decide)))))))
abbrev s_Board_sheet : Stmt := inClass (topS 21) 4
theorem sc_Board_sheet : FnScope ["self", "number"] ["self"] (defScope s_Board_sheet) := ⟨rfl, rfl, rfl, by decide +kernel, rfl, by decide +kernel, by decide +kernel⟩
theorem ok_Board_sheet {Γ : Gam} (B : Bl Γ) {f : Addr} {fd : FuncData} (Fn : Fun Γ.K "sheet" "Board.sheet" s_Board_sheet f fd) (hm : Meth Γ.K (boardA Γ.K) "sheet" f) (R : BrdC (Γ.at 1)) (b_numbers : HasB (Γ.at 1) "numbers" c_Board_numbers) : HasB (Γ.at 2) "sheet" c_Board_sheet := by
  refine ⟨fun _ _ => rfl, 2, f, fd, ["self"], Nat.le_refl _, hm, Fn.binds (ps := ["self"]) (fun _ _ _ _ _ _ us hl => match us, hl with | [_], _ => rfl), fnD (Γ := Γ.at 1) Fn sc_Board_sheet (F := F_Board_sheet) ?_⟩
  delta F_Board_sheet
  exact (ss_one (s_ret (d_tuple rfl B.tuple (DL.f (d_lc (own := [("number", 1)]) sc_Board_sheet.nd (by decide +kernel) (i_seq (d_methB0 R b_numbers (d_nb (i := 0) rfl rfl (by decide) (by decide)))) (g_one (i := 1) sc_Board_sheet.nd rfl rfl) (by decide) ts_nil (d_ix (d_rows R (d_nb (i := 0) rfl rfl (by decide) (by decide))) (d_nb (i := 1) rfl rfl (by decide) (by decide))))))))
abbrev s_Board_layers_at : Stmt := inClass (topS 21) 5
theorem sc_Board_layers_at : FnScope ["self", "point", "some", "place"] ["self", "point"] (defScope s_Board_layers_at) := ⟨rfl, rfl, rfl, by decide +kernel, rfl, by decide +kernel, by decide +kernel⟩
theorem ok_Board_layers_at {Γ : Gam} (B : Bl Γ) {f : Addr} {fd : FuncData} (Fn : Fun Γ.K "layers_at" "Board.layers_at" s_Board_layers_at f fd) (hm : Meth Γ.K (boardA Γ.K) "layers_at" f) (R : BrdC (Γ.at 5)) (h_layers : HasD (Γ.at 5) "layers" c_layers) (b_numbers : HasB (Γ.at 5) "numbers" c_Board_numbers) (b_sheet : HasB (Γ.at 5) "sheet" c_Board_sheet) : HasB (Γ.at 6) "layers_at" c_Board_layers_at := by
  refine ⟨fun _ _ => rfl, 6, f, fd, ["self", "point"], Nat.le_refl _, hm, Fn.binds (ps := ["self", "point"]) (fun _ _ _ _ _ _ us hl => match us, hl with | [_, _], _ => rfl), fnD (Γ := Γ.at 5) Fn sc_Board_layers_at (F := F_Board_layers_at) ?_⟩
  delta F_Board_layers_at
  exact (ss_cons (s_set (i := 2) sc_Board_layers_at.nd rfl rfl (d_methB0 R b_numbers (d_nb (i := 0) rfl rfl (by decide) (by decide))))
  (ss_one (s_ret (d_tuple rfl B.tuple (DL.f (d_lc (own := [("place", 3)]) sc_Board_layers_at.nd (by decide +kernel) (i_seq (d_call h_layers rfl (by decide) (a_cons (d_methB0 R b_sheet (d_nb (i := 0) rfl rfl (by decide) (by decide))) (a_cons (d_nm (i := 1) rfl rfl (by decide) (by decide)) a_nil)))) (g_one (i := 3) sc_Board_layers_at.nd rfl rfl) (by decide) ts_nil (d_ix (d_nb (i := 2) rfl rfl (by decide) (by decide)) (d_nb (i := 3) rfl rfl (by decide) (by decide)))))))))
abbrev s_Board_depth_area : Stmt := inClass (topS 21) 7
theorem sc_Board_depth_area : FnScope ["self", "k", "some"] ["self", "k"] (defScope s_Board_depth_area) := ⟨rfl, rfl, rfl, by decide +kernel, rfl, by decide +kernel, by decide +kernel⟩
theorem ok_Board_depth_area {Γ : Gam} (B : Bl Γ) {f : Addr} {fd : FuncData} (Fn : Fun Γ.K "depth_area" "Board.depth_area" s_Board_depth_area f fd) (hm : Meth Γ.K (boardA Γ.K) "depth_area" f) (R : BrdC (Γ.at 8)) (h_depth_areas : HasD (Γ.at 8) "depth_areas" c_depth_areas) (b_sheet : HasB (Γ.at 8) "sheet" c_Board_sheet) : HasB (Γ.at 9) "depth_area" c_Board_depth_area := by
  refine ⟨fun _ _ => rfl, 9, f, fd, ["self", "k"], Nat.le_refl _, hm, Fn.binds (ps := ["self", "k"]) (fun _ _ _ _ _ _ us hl => match us, hl with | [_, _], _ => rfl), fnD (Γ := Γ.at 8) Fn sc_Board_depth_area (F := F_Board_depth_area) ?_⟩
  delta F_Board_depth_area
  exact (ss_cons (s_set (i := 2) sc_Board_depth_area.nd rfl rfl (d_call h_depth_areas rfl (by decide) (a_cons (d_methB0 R b_sheet (d_nb (i := 0) rfl rfl (by decide) (by decide))) a_nil)))
  (ss_cons (s_if (t_c (d_gt (d_nb (i := 1) rfl rfl (by decide) (by decide)) (d_len rfl B.len (d_nb (i := 2) rfl rfl (by decide) (by decide)))))
  (ss_one (s_ret d_int))
  ss_nil)
  (ss_one (s_ret (d_ix (d_nb (i := 2) rfl rfl (by decide) (by decide)) (d_sub (d_nb (i := 1) rfl rfl (by decide) (by decide)) d_int))))))
abbrev s_Board_area : Stmt := inClass (topS 21) 6
theorem sc_Board_area : FnScope ["self"] ["self"] (defScope s_Board_area) := ⟨rfl, rfl, rfl, by decide +kernel, rfl, by decide +kernel, by decide +kernel⟩
theorem ok_Board_area {Γ : Gam} (B : Bl Γ) {f : Addr} {fd : FuncData} (Fn : Fun Γ.K "area" "Board.area" s_Board_area f fd) (hm : Meth Γ.K (boardA Γ.K) "area" f) (R : BrdC (Γ.at 9)) (h_covered_area : HasD (Γ.at 9) "covered_area" c_covered_area) (b_sheet : HasB (Γ.at 9) "sheet" c_Board_sheet) : HasB (Γ.at 10) "area" c_Board_area := by
  refine ⟨fun _ _ => rfl, 10, f, fd, ["self"], Nat.le_refl _, hm, Fn.binds (ps := ["self"]) (fun _ _ _ _ _ _ us hl => match us, hl with | [_], _ => rfl), fnD (Γ := Γ.at 9) Fn sc_Board_area (F := F_Board_area) ?_⟩
  delta F_Board_area
  exact (ss_one (s_ret (d_call h_covered_area rfl (by decide) (a_cons (d_methB0 R b_sheet (d_nb (i := 0) rfl rfl (by decide) (by decide))) a_nil))))
abbrev s__law_right : Stmt := topS 33
theorem sc__law_right : FnScope ["_law_board", "_law_rows", "_law_point_here", "_law_numbers", "_law_sheet_here", "_law_due", "_law_number", "_law_k"] ["_law_board", "_law_rows", "_law_point_here"] (defScope s__law_right) := ⟨rfl, rfl, rfl, by decide +kernel, rfl, by decide +kernel, by decide +kernel⟩
theorem ok__law_right {Γ : Gam} (B : Bl Γ) {f : Addr} {fd : FuncData} (Fn : Fun Γ.K "_law_right" "_law_right" s__law_right f fd) (hm : Γ.mg "_law_right" = some (.ref f)) (R : BrdC (Γ.at 10)) (h_covered_area : HasD (Γ.at 10) "covered_area" c_covered_area) (h__law_layers : HasD (Γ.at 10) "_law_layers" c__law_layers) (h_depth_areas : HasD (Γ.at 10) "depth_areas" c_depth_areas) (b_numbers : HasB (Γ.at 10) "numbers" c_Board_numbers) (b_sheet : HasB (Γ.at 10) "sheet" c_Board_sheet) (b_area : HasB (Γ.at 10) "area" c_Board_area) (b_layers_at : HasB (Γ.at 10) "layers_at" c_Board_layers_at) (b_depth_area : HasB (Γ.at 10) "depth_area" c_Board_depth_area) : HasD (Γ.at 11) "_law_right" c__law_right := by
  refine hasD (Γ := Γ) (k := 10) (F := F__law_right) (ps := ["_law_board", "_law_rows", "_law_point_here"]) Fn hm (Fn.binds (ps := ["_law_board", "_law_rows", "_law_point_here"]) fun _ _ _ _ _ _ us hl => match us, hl with | [_, _, _], _ => rfl) sc__law_right ?_
  delta F__law_right
  exact (ss_cons (s_set (i := 3) sc__law_right.nd rfl rfl (DV.toE (d_sortedI rfl B.sorted (d_nb (i := 1) rfl rfl (by decide) (by decide)))))
  (ss_cons (s_set (i := 4) sc__law_right.nd rfl rfl (d_tuple rfl B.tuple (DL.f (d_lc (own := [("_law_number", 6)]) sc__law_right.nd (by decide +kernel) (i_seq (d_nm (i := 3) rfl rfl (by decide) (by decide))) (g_one (i := 6) sc__law_right.nd rfl rfl) (by decide) ts_nil (d_ix (d_nb (i := 1) rfl rfl (by decide) (by decide)) (d_nb (i := 6) rfl rfl (by decide) (by decide)))))))
  (ss_cons (s_if (DW.t (w_or (t_c (d_ne (d_methB0 R b_numbers (d_nb (i := 0) rfl rfl (by decide) (by decide))) (d_tuple rfl B.tuple (d_nb (i := 3) rfl rfl (by decide) (by decide))))) (w_or (t_c (d_ne (d_methB0 R b_sheet (d_nb (i := 0) rfl rfl (by decide) (by decide))) (d_nb (i := 4) rfl rfl (by decide) (by decide)))) (w_or1 (t_c (d_ne (d_methB0 R b_area (d_nb (i := 0) rfl rfl (by decide) (by decide))) (d_call h_covered_area rfl (by decide) (a_cons (d_nm (i := 4) rfl rfl (by decide) (by decide)) a_nil))))))))
  (ss_one (s_ret d_bl))
  ss_nil)
  (ss_cons (s_if (t_c (d_ne (d_methB R b_layers_at (d_nb (i := 0) rfl rfl (by decide) (by decide)) (a_cons (d_nm (i := 2) rfl rfl (by decide) (by decide)) a_nil)) (d_tuple rfl B.tuple (DL.f (d_lc (own := [("_law_k", 7)]) sc__law_right.nd (by decide +kernel) (i_seq (d_call h__law_layers rfl (by decide) (a_cons (d_nm (i := 4) rfl rfl (by decide) (by decide)) (a_cons (d_nm (i := 2) rfl rfl (by decide) (by decide)) a_nil)))) (g_one (i := 7) sc__law_right.nd rfl rfl) (by decide) ts_nil (d_ix (d_nb (i := 3) rfl rfl (by decide) (by decide)) (d_nb (i := 7) rfl rfl (by decide) (by decide))))))))
  (ss_one (s_ret d_bl))
  ss_nil)
  (ss_cons (s_set (i := 5) sc__law_right.nd rfl rfl (d_add (d_call h_depth_areas rfl (by decide) (a_cons (d_nm (i := 4) rfl rfl (by decide) (by decide)) a_nil)) (d_tup (a_cons d_int (a_cons d_int a_nil)))))
  (ss_one (s_ret (DC.toE (d_eq (DL.f (d_lc (own := [("_law_k", 7)]) sc__law_right.nd (by decide +kernel) (i_range1 rfl B.range (d_len rfl B.len (d_nb (i := 5) rfl rfl (by decide) (by decide)))) (g_one (i := 7) sc__law_right.nd rfl rfl) (by decide) ts_nil (d_methB R b_depth_area (d_nb (i := 0) rfl rfl (by decide) (by decide)) (a_cons (d_add (d_nb (i := 7) rfl rfl (by decide) (by decide)) d_int) a_nil)))) (d_list rfl B.list (d_nb (i := 5) rfl rfl (by decide) (by decide))))))))))))
end Pv
set_option Elab.async false
set_option linter.all false
set_option maxRecDepth 100000
set_option maxHeartbeats 4000000
set_option autoImplicit false
namespace Pv
open PySem PySem.Spec PyProof.Rows L2
/-! ### what changes a board -/
abbrev s_Board___init__ : Stmt := inClass (topS 21) 0
theorem sc_Board___init__ : FnScope ["self"] ["self"] (defScope s_Board___init__) := ⟨rfl, rfl, rfl, by decide +kernel, rfl, by decide +kernel, by decide +kernel⟩
abbrev s_Board_put_in : Stmt := inClass (topS 21) 1
theorem sc_Board_put_in : FnScope ["self", "piece"] ["self", "piece"] (defScope s_Board_put_in) := ⟨rfl, rfl, rfl, by decide +kernel, rfl, by decide +kernel, by decide +kernel⟩
abbrev s_Board_take_out : Stmt := inClass (topS 21) 2
theorem sc_Board_take_out : FnScope ["self", "number"] ["self", "number"] (defScope s_Board_take_out) := ⟨rfl, rfl, rfl, by decide +kernel, rfl, by decide +kernel, by decide +kernel⟩
abbrev s__law_taken : Stmt := topS 32
theorem sc__law_taken : FnScope ["_law_board", "_law_number", "_law_told", "e"] ["_law_board", "_law_number"] (defScope s__law_taken) := ⟨rfl, rfl, rfl, by decide +kernel, rfl, by decide +kernel, by decide +kernel⟩
theorem if_t {c : Bool} {A B : Prop} (hc : c = true) (h : A) : if c = true then A else B := by
  rw [if_pos hc]; exact h
theorem if_f {c : Bool} {A B : Prop} (hc : c = false) (h : B) : if c = true then A else B := by
  rw [hc, if_neg Bool.false_ne_true]; exact h
/-- the instance at x, its rows at d, its next number n -/
abbrev insB (K : PySem.W.Frag) (dx d : Addr) (n : Int) : HO := .ins (boardA K) dx [("rows", .ref d), ("next_number", .int n)]
def spBI (K : PySem.W.Frag) : Sp := fun vs H Q _ => ∃ x dx, vs = [.ref x] ∧ H x = some (.ins (boardA K) dx []) ∧ ∀ p, H p = none → Q .non (upd (upd (upd H p (.dK [])) x (.ins (boardA K) dx [("rows", .ref p)])) x (insB K dx p 0))
def spPut (K : PySem.W.Frag) : Sp := fun vs H Q _ => ∃ x dx d kvs n pv, vs = [.ref x, pv] ∧ H x = some (insB K dx d n) ∧ H d = some (.dK kvs) ∧ kvs.length < sizeLine ∧ Q (.int n) (upd (upd H d (.dK (putK kvs (Sum.inl n) pv))) x (insB K dx d (n + 1)))
section
variable {Γ : Gam}
theorem ok_BI {f : Addr} {fd : FuncData} (R : BrdC Γ) (Fn : Fun Γ.K "__init__" "Board.__init__" s_Board___init__ f fd) : FnOk Γ.P Γ.w Γ.K Γ.mg Γ.base CX0 1 f fd ["self"] (spBI Γ.K) := by
  refine Fn.ok sc_Board___init__ (fun vs H Q E h => ?_) (fun cdv A outer s H vs Q E hr h => ⟨_, pss_cons (ps_fld (pv 0) pe_dnewK rfl) (pss_one (ps_fld (pv 0) pe_int rfl)), ?_⟩)
  · obtain ⟨x, dx, rfl, _⟩ := h; rfl
  · obtain ⟨x, dx, rfl, hx, q⟩ := h
    intro p hp
    have hxp : x ≠ p := fun z => by rw [← z, hx] at hp; cases hp
    refine ⟨_, rfl, x, _, _, _, rfl, by rw [upd_ne hxp]; exact hx, R.cl, R.nr, by decide, ?_⟩
    refine ⟨_, rfl, x, _, _, _, rfl, upd_same, R.cl, R.nn, (show 1 < 1000 by decide), ?_⟩
    exact q p hp
theorem ok_Put {f : Addr} {fd : FuncData} (R : BrdC Γ) (Fn : Fun Γ.K "put_in" "Board.put_in" s_Board_put_in f fd) : FnOk Γ.P Γ.w Γ.K Γ.mg Γ.base CX0 1 f fd ["self", "piece"] (spPut Γ.K) := by
  refine Fn.ok sc_Board_put_in (fun vs H Q E h => ?_) (fun cdv A outer s H vs Q E hr h => ⟨_, pss_cons (ps_dput (hu_of hr) (pe_fld (pv 0) rfl) (pe_fld (pv 0) rfl) (pv 1) rfl) (pss_cons (ps_fld (pv 0) (pe_op op_add (pe_fld (pv 0) rfl) pe_int) rfl) (pss_one (ps_ret (pe_op op_sub (pe_fld (pv 0) rfl) pe_int)))), ?_⟩)
  · obtain ⟨x, dx, d, kvs, n, pv, rfl, _⟩ := h; rfl
  · obtain ⟨x, dx, d, kvs, n, pv, rfl, hx, hd, hl, q⟩ := h
    have hxd : x ≠ d := fun z => by rw [← z, hx] at hd; cases hd
    refine ⟨_, rfl, _, rfl, x, _, _, _, _, rfl, hx, R.cl, R.nr, rfl, ?_⟩
    refine ⟨_, rfl, x, _, _, _, _, rfl, hx, R.cl, R.nn, rfl, ?_⟩
    refine ⟨d, _, rfl, DPut.k (k := Sum.inl n) hd hl, ?_⟩
    have hx' : upd H d (.dK (putK kvs (Sum.inl n) pv)) x = some (insB Γ.K dx d n) := by rw [upd_ne hxd]; exact hx
    refine ⟨_, rfl, x, _, _, _, _, rfl, hx', R.cl, R.nn, rfl, _, _, rfl, rfl, ?_⟩
    refine ⟨_, rfl, x, _, _, _, rfl, hx', R.cl, R.nn, (show 2 < 1000 by decide), ?_⟩
    refine ⟨_, rfl, x, _, _, _, _, rfl, upd_same, R.cl, R.nn, rfl, _, _, rfl, rfl, ?_⟩
    show Q (.int (n + 1 - 1)) _
    rw [show n + 1 - 1 = n by omega]
    exact q
/-- isinstance(x, T), T a built-in class -/
theorem pe_isT {X : Cx} {T : String} {tn : Str} {ea : Expr} {ta : TE} {p p2 pos : Pos} (hT : bootBuiltins tn = some (.type T)) (htn : tn ≠ "__name__") (htd : (tn == ("__debug__" : Str)) = false) (hg : Gl X "isinstance") (hm : X.mg "isinstance" = none) (hg2 : Gl X tn) (hm2 : X.mg tn = none) (ha : PE X ea ta)
    (hs : starEach (ea :: [.Name tn p2]) X.env = (false, eval ea X.env) :: starEach [.Name tn p2] X.env := by rfl) : PE X (.Call (.Name "isinstance" p) [ea, .Name tn p2] [] pos) (tCB (rIsi X.K) (tCons ta (tCons (tC (.ty T)) tNil))) :=
  pe_callB call_isi hg hm (by decide +kernel) (pa_cons ha (pa_cons (pe_bltn (v := .ty T) hg2 hm2 hT rfl htn htd) pa_nil) hs) (by decide) (by decide) hs rfl
def spTake (K : PySem.W.Frag) : Sp := fun vs H Q E => ∃ x dx d kvs n i, vs = [.ref x, .int i] ∧ H x = some (insB K dx d n) ∧ H d = some (.dK kvs) ∧ (∀ v, valV kvs (Sum.inl i) = some v → Q .non (upd H d (.dK (dropK kvs (Sum.inl i))))) ∧ (valV kvs (Sum.inl i) = none → E (.ref (He.ga K "NoPiece")) none H)
/-- the classes of the errors -/
structure ErrC (Γ : Gam) : Prop where
  gP : Γ.mg "NoPiece" = some (.ref (He.ga Γ.K "NoPiece"))
  gT : Γ.mg "NoText" = some (.ref (He.ga Γ.K "NoText"))
  gR : Γ.mg "RingError" = some (.ref (He.ga Γ.K "RingError"))
  xP : PySem.W.excIn Γ.K (He.ga Γ.K "NoPiece") He.veBase "ValueError.__new__" = true
  kP : PySem.W.keepIn Γ.K (.ref (He.ga Γ.K "NoPiece")) = true
  bP : PySem.W.subIn Γ.K (.ref (He.ga Γ.K "NoPiece")) (.type "BaseException") = some true
  tP : PySem.W.typeIn Γ.K (.ref (He.ga Γ.K "NoPiece")) = some (.type "type")
  eR : PySem.W.exmOne Γ.K (.ref (He.ga Γ.K "NoPiece")) (.ref (He.ga Γ.K "RingError")) = some true
  cP : ExcC Γ.K (He.ga Γ.K "NoPiece")
  oP : PySem.W.kitOne Γ.K (.ref (He.ga Γ.K "NoPiece")) (.ref (He.ga Γ.K "NoPiece")) = some true
  oT : PySem.W.kitOne Γ.K (.ref (He.ga Γ.K "NoPiece")) (.ref (He.ga Γ.K "NoText")) = some false
  oV : PySem.W.kitOne Γ.K (.ref (He.ga Γ.K "NoPiece")) (.type "ValueError") = some true
theorem ok_Take {f : Addr} {fd : FuncData} (B : Bl Γ) (R : BrdC Γ) (W : ErrC Γ) (Fn : Fun Γ.K "take_out" "Board.take_out" s_Board_take_out f fd) : FnOk Γ.P Γ.w Γ.K Γ.mg Γ.base (L2.CX Γ.P Γ.w) 1 f fd ["self", "number"] (spTake Γ.K) := by
  refine Fn.okX sc_Board_take_out (fun vs H Q E h => ?_) (fun cdv A outer s H vs Q E hr h => ⟨_, pss_cons (ps_if (PW.pt (pw_or (pt_val (pe_isT (T := "bool") (by decide +kernel) (by decide) (by decide) rfl B.isinstance rfl B.bool (pv 1))) (pw_or (pt_not (pt_val (pe_isT (T := "int") (by decide +kernel) (by decide) (by decide) rfl B.isinstance rfl B.int (pv 1))))
      (pw_or1 (pt_cmp (pc_dnotin (hu_of hr) (pv 1) (pe_fld (pv 0) rfl))))))) (pss_one (ps_raise (W := fun cls d _ H => E cls d H) rfl (takes_of rfl rfl rfl rfl) (pmk_own PySem.F.excBase_ValueError W.xP W.gP W.kP (raises_own W.bP W.tP) rfl))) pss_nil)
      (pss_one (ps_expr (pe_dpop1 (pe_fld (pv 0) rfl) (pv 1) ⟨rfl, rfl, rfl, rfl⟩) rfl)), ?_⟩)
  · obtain ⟨x, dx, d, kvs, n, i, rfl, _⟩ := h; rfl
  · obtain ⟨x, dx, d, kvs, n, i, rfl, hx, hd, q1, q2⟩ := h
    refine ⟨_, rfl, _, .ty "bool", .type "int", .type "bool", false, rfl, .ty "bool", .base (.int i), kit_ty (by decide +kernel), false, rfl, ?_⟩
    refine if_f rfl ?_
    refine ⟨_, rfl, _, .ty "int", .type "int", .type "int", true, rfl, .ty "int", .base (.int i), kit_ty (by decide +kernel), true, rfl, ?_⟩
    refine if_f rfl ?_
    refine ⟨_, rfl, _, rfl, x, _, _, _, _, rfl, hx, R.cl, R.nr, rfl, d, _, rfl, DGet.k (k := Sum.inl i) hd, _, rfl, ?_⟩
    cases e : valV kvs (Sum.inl i) with
    | none =>
      refine if_t rfl ?_
      exact q2 e
    | some v =>
      refine if_f rfl ?_
      exact ⟨_, rfl, x, _, _, _, _, rfl, hx, R.cl, R.nr, rfl, d, rfl, .inl ⟨kvs, .inl hd⟩, _, rfl, kvs, Sum.inl i, v, hd, rfl, e, q1 v e⟩
end
section
variable {X : Cx} {CX : CXT} {k : Nat} {f C : Addr} {fd : FuncData} {ps : List Str} {sp : Sp} {E : L2.St → XK} {m : Str} {pos apos : Pos} {e o : Expr} {es : List Expr} {ta : TE} {t : TA}
/-- o.m(e, ..), what is raised wished for at the caller's slots -/
def tMethAt (C : Addr) (m : Str) (sp : Sp) (E : L2.St → XK) (ta : TE) (t : TA) : TE := fun σ H Q => ta σ H fun x H1 => ∃ a dx fs, x = .ref a ∧ H1 a = some (.ins C dx fs) ∧ fs.lookup m = none ∧ t σ H1 fun vs H2 => sp (x :: vs) H2 Q (E σ)
theorem pe_methAt {pl : Sem Bool} (he : PE X o ta) (c : Cls X.K C) (hm : Meth X.K C m f) (F : FnOk X.prog X.w X.K X.mg X.base CX k f fd ps sp) (hr : Room k X.A) (hb : Binds X.K fd ps []) (hx : ∀ σ, PassesAt CX X σ (E σ)) (ha : PA X (e :: es) t)
    (hst : starEach (e :: es) X.env = (false, eval e X.env) :: starEach es X.env := by rfl) (hpl : (backTo pos (starEach es X.env)).any (·.1) = false := by rfl)
    (ht : eval (.Call (.Attribute o m apos) (e :: es) [] pos) X.env = (do
      let ov ← eval o X.env
      standAt apos.atName
      let (f, first) ← holding [ov] (getMethod ov m pl)
      callWith pos f first (backTo pos (starEach (e :: es) X.env)) (backToKw pos (keywordEach [] X.env))) := by rfl) :
    PE X (.Call (.Attribute o m apos) (e :: es) [] pos) (tMethAt C m sp E ta t) := by
  refine ⟨fun pins s σ H Q I h => ?_⟩
  refine PySem.W.methodCall_KW (pl := pl) (thn (he.run pins s σ H _ I h) fun u s1 ⟨x, H1, I1, rx, a, dx, fs, ex, ea, l, q⟩ => ?_) ht
  subst ex
  obtain rfl : u = Value.ref a := rx
  refine getmeth_ok I1 ea c hm l ?_
  refine PySem.W.callWith_K (first := [.ref a]) (h₀ := X.base) I.ok.mod.kin hm.kp (thn (ha.run pos pins s1 σ H1 _ I1 q) fun us s2 ⟨vs, H2, I2, r, q2⟩ => ⟨I2.kIn, ?_⟩) hst hpl
  exact run_fnS (us := .ref a :: us) (vs := .ref a :: vs) F hr hb (hx σ) I2 (.cons rfl r) q2
/-- isinstance(e, c), e the error that the suite holds -/
theorem pe_isE {a D : Addr} {oe : Obj} {cls : Value} {d : Option Addr} {pn : List (Addr × Obj)} {ea ec : Expr} {te tc : TE} {p pos : Pos} (W : ExcC X.K D) (hz : Zc cls d oe) (hf : ∃ vs, oe.data = .fields vs) (hg : Gl (X.suite a ((a, oe) :: pn)) "isinstance") (hm : (X.suite a ((a, oe) :: pn)).mg "isinstance" = none)
    (he : PE (X.suite a ((a, oe) :: pn)) ea te) (hc : PE (X.suite a ((a, oe) :: pn)) ec tc)
    (hs : starEach (ea :: [ec]) (X.suite a ((a, oe) :: pn)).env = (false, eval ea (X.suite a ((a, oe) :: pn)).env) :: starEach [ec] (X.suite a ((a, oe) :: pn)).env := by rfl)
    (hs2 : starEach (ec :: []) (X.suite a ((a, oe) :: pn)).env = (false, eval ec (X.suite a ((a, oe) :: pn)).env) :: starEach [] (X.suite a ((a, oe) :: pn)).env := by rfl)
    (hpl : (backTo pos (starEach [ec] (X.suite a ((a, oe) :: pn)).env)).any (·.1) = false := by rfl) :
    PE (X.suite a ((a, oe) :: pn)) (.Call (.Name "isinstance" p) [ea, ec] [] pos) (fun σ H Q => cls = .ref D ∧ d = none ∧ tCB (rIsE X.K D a) (tCons te (tCons tc tNil)) σ H Q) := by
  refine ⟨fun pins s σ H Q I h => ?_⟩
  obtain ⟨rfl, rfl, h⟩ := h
  exact (pe_callB (call_isE W hz hf) hg hm (by decide +kernel) (pa_cons he (pa_cons hc pa_nil hs2) hs) (by decide) (by decide) hs hpl).run pins s σ H Q I h
end
def spTaken (K : PySem.W.Frag) : Sp := fun vs H Q _ => ∃ x dx d kvs n i, vs = [.ref x, .int i] ∧ H x = some (insB K dx d n) ∧ H d = some (.dK kvs) ∧ (∀ v, valV kvs (Sum.inl i) = some v → Q .non (upd H d (.dK (dropK kvs (Sum.inl i))))) ∧ (valV kvs (Sum.inl i) = none → Q (.str "no piece") H)
section
variable {Γ : Gam}
def t_sx (K : PySem.W.Frag) (D a : Addr) (cls : Value) (d : Option Addr) : TS :=
  tIfS (tAnd (tB fun σ H Q => cls = .ref D ∧ d = none ∧ tCB (rIsE K D a) (tCons (tVar 3) (tCons (tC (.ref D)) tNil)) σ H Q) (tAnd (tNot (tB fun σ H Q => cls = .ref D ∧ d = none ∧ tCB (rIsE K D a) (tCons (tVar 3) (tCons (tC (.ref (He.ga K "NoText"))) tNil)) σ H Q))
    (tB fun σ H Q => cls = .ref D ∧ d = none ∧ tCB (rIsE K D a) (tCons (tVar 3) (tCons (tC (.ty "ValueError")) tNil)) σ H Q))) (tAsg (tC (.str "no piece")) (gName 2)) tNext
theorem ok_Taken {f fT : Addr} {fd fdT : FuncData} (B : Bl Γ) (R : BrdC Γ) (W : ErrC Γ) (Fn : Fun Γ.K "_law_taken" "_law_taken" s__law_taken f fd) (mT : Meth Γ.K (boardA Γ.K) "take_out" fT) (bT : Binds Γ.K fdT ["self", "number"] [])
    (GT : FnOk Γ.P Γ.w Γ.K Γ.mg Γ.base (L2.CX Γ.P Γ.w) 1 fT fdT ["self", "number"] (spTake Γ.K)) : FnOk Γ.P Γ.w Γ.K Γ.mg Γ.base CX0 2 f fd ["_law_board", "_law_number"] (spTaken Γ.K) := by
  refine Fn.ok sc__law_taken (fun vs H Q E h => ?_) (fun cdv A outer s H vs Q E hr h => ⟨_, pss_cons (ps_set (i := 2) sc__law_taken.nd rfl (Or.inl rfl) pe_str)
    (pss_cons (ps_try_as (i := 3) (tb := fun W' => tAsg (tMethAt (boardA Γ.K) "take_out" (spTake Γ.K) (WE W') (tVar 0) (tCons (tVar 1) tNil)) (gName 2)) (ts := t_sx Γ.K (He.ga Γ.K "NoPiece")) (Wout := fun _ _ _ _ => False) rfl rfl sc__law_taken.nd rfl rfl ⟨rfl, by decide, Or.inl W.gR⟩ takes0
      (fun W' pn xe tk _ => pss_one (ps_set (i := 2) sc__law_taken.nd rfl (Or.inl rfl) (by exact pe_methAt (pv 0) R.cl mT GT hr bT (fun σ => passAt tk σ) (by exact pa_cons (pv 1) pa_nil))))
      (fun a oe cls d pn hz hf => pss_one (ps_if (PW.pt (pw_and (pt_val (pe_isE W.cP hz hf rfl B.isinstance (pv 3) (pe_glob rfl W.gP rfl))) (pw_and (pt_not (pt_val (pe_isE W.cP hz hf rfl B.isinstance (pv 3) (pe_glob rfl W.gT rfl))))
        (pw_and1 (pt_val (pe_isE W.cP hz hf rfl B.isinstance (pv 3) (pe_bltn (v := .ty "ValueError") rfl B.ValueError (by decide +kernel) rfl (by decide) (by decide)))))))) (pss_one (ps_set (i := 2) sc__law_taken.nd rfl (Or.inl rfl) pe_str)) pss_nil)))
    (pss_one (ps_ret (pv 2)))), ?_⟩)
  · obtain ⟨x, dx, d, kvs, n, i, rfl, _⟩ := h; rfl
  · obtain ⟨x, dx, d, kvs, n, i, rfl, hx, hd, q1, q2⟩ := h
    refine ⟨_, rfl, x, dx, _, rfl, hx, rfl, _, rfl, x, dx, d, kvs, n, i, rfl, hx, hd, fun v hv => ?_, fun hn => ?_⟩
    · exact ⟨_, rfl, q1 v hv⟩
    · refine ⟨true, W.eR, fun _ a _ => ?_, fun z => nomatch z⟩
      refine ⟨rfl, rfl, _, rfl, _, _, true, rfl, fun u r => r, W.oP, true, rfl, ?_⟩
      refine if_t rfl ?_
      refine ⟨rfl, rfl, _, rfl, _, _, false, rfl, fun u r => r, W.oT, false, rfl, ?_⟩
      refine if_t rfl ?_
      refine ⟨rfl, rfl, _, rfl, _, _, true, rfl, fun u r => r, W.oV, true, rfl, ?_⟩
      refine if_t rfl ?_
      exact ⟨_, rfl, q2 hn⟩
end
end Pv
set_option Elab.async false
set_option linter.all false
set_option maxRecDepth 100000
set_option maxHeartbeats 4000000
set_option autoImplicit false
namespace Pv
open PySem PySem.Spec PyProof.Rows L2
/-! ### a def that holds a board -/
/-- what stands at two places -/
def only (x d : Addr) (H : Hp) : Hp := fun a => if a = x ∨ a = d then H a else none
theorem only_x {x d : Addr} {H : Hp} : only x d H x = H x := if_pos (.inl rfl)
theorem only_d {x d : Addr} {H : Hp} : only x d H d = H d := if_pos (.inr rfl)
theorem only_sub {x d a : Addr} {H : Hp} {o : HO} (h : only x d H a = some o) : H a = some o := by
  unfold only at h
  split at h
  · exact h
  · cases h
theorem only_no {x d a : Addr} {H : Hp} (h1 : a ≠ x) (h2 : a ≠ d) : only x d H a = none := if_neg fun h => h.elim h1 h2
section
variable {Γ : Gam} {H0 H0' G H G' H' : Hp} {ρ : Env} {σ : L2.St}
theorem EnvOk.h0 (E : EnvOk Γ H0 G H ρ σ) (h : ∀ a, H0 a = none → H0' a = none) : EnvOk Γ H0' G H ρ σ := by
  refine ⟨E.len, fun i s hs => ?_, E.ne⟩
  have q := E.sl i s hs
  cases s with
  | no => trivial
  | sh d => exact q
  | ow d => obtain ⟨a, h1, h2, h3⟩ := q; exact ⟨a, h1, h a h2, h3⟩
theorem Own.atE {K : PySem.W.Frag} {C a : Addr} {d : D} (h : Own K C G H a d) (e : H' a = H a) : Own K C G H' a d := by
  cases d <;> try exact h.elim
  all_goals
    obtain ⟨vs, h1, h2⟩ := h
    exact ⟨vs, e.trans h1, h2⟩
/-- a change at places that are neither shared nor one's own here -/
theorem EnvOk.else_ (E : EnvOk Γ H0 G H ρ σ) (h : ∀ a, H0 a = none → H' a = H a) : EnvOk Γ H0 G H' ρ σ := by
  refine ⟨E.len, fun i s hs => ?_, E.ne⟩
  have q := E.sl i s hs
  cases s with
  | no => trivial
  | sh d => exact q
  | ow d => obtain ⟨a, h1, h2, h3, h4⟩ := q; exact ⟨a, h1, h2, h3, h4.atE (h a h2)⟩
abbrev keysOf (kvs : List (Key × V)) (kds : List (Int × D)) : Prop := kvs.map Prod.fst = kds.map fun p => (Sum.inl p.1 : Key)
structure BS (Γ : Gam) (x : Addr) (G H : Hp) (ρ : Env) (σ : L2.St) (kds : List (Int × D)) (n : Int) : Prop where
  s : SL G H
  ex : ∃ (dx d : Addr) (kvs : List (Key × V)), H x = some (insB Γ.K dx d n) ∧ H d = some (.dK kvs) ∧ keysOf kvs kds ∧ RepL Γ.K Γ.C G (kvs.map Prod.snd) (kds.map Prod.snd) ∧ G x = none ∧ G d = none ∧ EnvOk Γ (only x d H) G H ρ σ
variable {x : Addr} {kds : List (Int × D)} {n : Int}
theorem keep_ins {a : Addr} {o : HO} (g : Grow G H G' H') (h : H a = some o) (h0 : G a = none) (ht : ∀ vs, o ≠ .tup vs) : G' a = none ∧ H' a = some o := ⟨Grow.keepO g h h0 ht, g.x a o h0 h⟩
theorem BS.grow (b : BS Γ x G H ρ σ kds n) (g : Grow G H G' H') : BS Γ x G' H' ρ σ kds n := by
  obtain ⟨dx, d, kvs, h1, h2, h3, h4, h5, h6, E⟩ := b.ex
  obtain ⟨a1, a2⟩ := keep_ins g h1 h5 fun _ z => by cases z
  obtain ⟨b1, b2⟩ := keep_ins g h2 h6 fun _ z => by cases z
  refine ⟨g.s, dx, d, kvs, a2, b2, h3, h4.mono g.g, a1, b1, (E.grow g).h0 fun a ha => ?_⟩
  refine only_no (fun z => ?_) (fun z => ?_)
  · rw [z, only_x, h1] at ha; cases ha
  · rw [z, only_d, h2] at ha; cases ha
theorem Grow.only {d : Addr} (s : SL G H) : Grow G (only x d H) G H := ⟨SL.refl _, fun a o h => .inl (only_sub h), s, fun _ h1 h2 => absurd h1 h2, fun a o _ h => only_sub h⟩
/-- statements that leave the board alone -/
theorem BS.run {t : TS} {F : Env → Option Res} {De : Ends} {r : Res} (b : BS Γ x G H ρ σ kds n) (sm : SemS Γ t F) (e : F ρ = some r)
    (q1 : ∀ (ρ' : Env) (G' H' : Hp) (σ' : L2.St), r = .nx ρ' → SL G G' → BS Γ x G' H' ρ' σ' kds n → De.nx σ' H') (q2 : ∀ (dv : D) (G' H' : Hp) (v : V), r = .rt dv → Rep Γ.K Γ.C G' v dv → De.rt v H') : t De σ H := by
  obtain ⟨dx, d, kvs, h1, h2, h3, h4, h5, h6, E⟩ := b.ex
  refine sm G (Pv.only x d H) ρ σ G H De r (Grow.only b.s) E e (fun ρ' G' H' σ' er g sl E' => ?_) fun dv G' H' v er g rr => q2 dv G' H' v er rr
  obtain ⟨a1, a2⟩ := keep_ins g (only_x.trans h1) h5 fun _ z => by cases z
  obtain ⟨b1, b2⟩ := keep_ins g (only_d.trans h2) h6 fun _ z => by cases z
  refine q1 ρ' G' H' σ' er sl ⟨g.s, dx, d, kvs, a2, b2, h3, h4.mono sl, a1, b1, E'.h0 fun a ha => ?_⟩
  refine only_no (fun z => ?_) (fun z => ?_)
  · rw [z, only_x, h1] at ha; cases ha
  · rw [z, only_d, h2] at ha; cases ha
theorem BS.val {κ : Kd} {t : TE} {F : Env → Option D} {Q : VK} {dv : D} (b : BS Γ x G H ρ σ kds n) (sv : SemV Γ κ t F) (e : F ρ = some dv) (q : ∀ (G' H' : Hp) (v : V), Grow G H G' H' → BS Γ x G' H' ρ σ kds n → Out Γ κ G H G' H' v dv → Q v H') : t σ H Q := by
  obtain ⟨dx, d, kvs, h1, h2, h3, h4, h5, h6, E⟩ := b.ex
  exact sv _ ρ σ G H Q dv b.s E e fun G' H' v g o => q G' H' v g (b.grow g) o
theorem BS.test {t : TT} {F : Env → Option Bool} {Q : Bool → Hp → Prop} {c : Bool} (b : BS Γ x G H ρ σ kds n) (st : SemT Γ t F) (e : F ρ = some c) (q : ∀ (G' H' : Hp), SL G G' → BS Γ x G' H' ρ σ kds n → Q c H') : t σ H Q := by
  obtain ⟨dx, d, kvs, h1, h2, h3, h4, h5, h6, E⟩ := b.ex
  exact st _ ρ σ G H Q c b.s E e fun G' H' g => q G' H' g.g (b.grow g)
theorem BS.slot {i : Nat} {dv : D} (b : BS Γ x G H ρ σ kds n) (h : ρ[i]? = some (.sh dv)) : ∃ v, σ[i]? = some (some v) ∧ Rep Γ.K Γ.C G v dv := by
  obtain ⟨dx, d, kvs, h1, h2, h3, h4, h5, h6, E⟩ := b.ex
  exact E.sl i _ h
theorem BS.at1 {i : Nat} (b : BS Γ x G H ρ σ kds n) (h : ρ[i]? = some (.sh (.adr x))) : σ[i]? = some (some (.ref x)) := by
  obtain ⟨v, h1, h2⟩ := b.slot h
  cases h2
  exact h1
theorem BS.atI {i : Nat} {k : Int} (b : BS Γ x G H ρ σ kds n) (h : ρ[i]? = some (.sh (.int k))) : σ[i]? = some (some (.int k)) := by
  obtain ⟨v, h1, h2⟩ := b.slot h
  cases h2
  exact h1
theorem SL.upd {a : Addr} {o : HO} (s : SL G H) (h : G a = none) : SL G (upd H a o) := fun b u e => by
  rw [upd_ne (ne_of_none e h)]; exact s b u e
theorem BS.setSh {i : Nat} {v : V} {dv : D} (b : BS Γ x G H ρ σ kds n) (r : Rep Γ.K Γ.C G v dv) : BS Γ x G H (ρ.set i (.sh dv)) (σ.set i (some v)) kds n := by
  obtain ⟨dx, d, kvs, h1, h2, h3, h4, h5, h6, E⟩ := b.ex
  exact ⟨b.s, dx, d, kvs, h1, h2, h3, h4, h5, h6, E.setSh r⟩
/-- the board has changed -/
theorem BS.change {kds' : List (Int × D)} {n' : Int} {dx d : Addr} {kvs kvs' : List (Key × V)} (s : SL G H) (h1 : H x = some (insB Γ.K dx d n)) (h2 : H d = some (.dK kvs)) (h5 : G x = none) (h6 : G d = none) (E : EnvOk Γ (only x d H) G H ρ σ)
    (k : keysOf kvs' kds') (r : RepL Γ.K Γ.C G (kvs'.map Prod.snd) (kds'.map Prod.snd)) (hx : H' x = some (insB Γ.K dx d n')) (hd : H' d = some (.dK kvs')) (ho : ∀ a, a ≠ x → a ≠ d → H' a = H a) : BS Γ x G H' ρ σ kds' n' := by
  refine ⟨fun a o e => ?_, dx, d, kvs', hx, hd, k, r, h5, h6, (EnvOk.else_ E fun a ha => ?_).h0 fun a ha => ?_⟩
  · rw [ho a (ne_of_none e h5) (ne_of_none e h6)]; exact s a o e
  · refine ho a (fun z => ?_) fun z => ?_
    · rw [z, only_x, h1] at ha; cases ha
    · rw [z, only_d, h2] at ha; cases ha
  · refine only_no (fun z => ?_) (fun z => ?_)
    · rw [z, only_x, h1] at ha; cases ha
    · rw [z, only_d, h2] at ha; cases ha
theorem no_key {kvs : List (Key × V)} {i : Int} (h3 : keysOf kvs kds) (h : i ∉ kds.map Prod.fst) : valV kvs (Sum.inl i) = none := by
  cases ev : valV kvs (Sum.inl i) with
  | none => rfl
  | some u =>
    exfalso
    have z := valV_in ev
    have z : (Sum.inl i : Key) ∈ kvs.map Prod.fst := z
    rw [h3] at z
    obtain ⟨q, hq, e2⟩ := List.mem_map.mp z
    cases e2
    exact h (List.mem_map.mpr ⟨q, hq, rfl⟩)
theorem put_ok {De : Ends} {dv : D} (b : BS Γ x G H ρ σ kds n) (e1 : ρ[1]? = some (.sh (.adr x))) (e6 : ρ[6]? = some (.sh dv)) (hn : n ∉ kds.map Prod.fst) (hl : kds.length < big)
    (q : ∀ H', BS Γ x G H' (ρ.set 7 (.sh (.int n))) (σ.set 7 (some (.int n))) (kds ++ [(n, dv)]) (n + 1) → De.nx (σ.set 7 (some (.int n))) H') : tAsg (tMeth (boardA Γ.K) "put_in" (spPut Γ.K) [] E0 (tVar 1) (tCons (tVar 6) tNil)) (gName 7) De σ H := by
  obtain ⟨pv, s6, r6⟩ := b.slot e6
  have s1 := b.at1 e1
  obtain ⟨dx, d, kvs, h1, h2, h3, h4, h5, h6, E⟩ := b.ex
  have hlen : kvs.length = kds.length := by
    have := congrArg List.length h3
    simpa using this
  have hxd : x ≠ d := fun z => by rw [← z, h1] at h2; cases h2
  refine ⟨_, s1, x, dx, _, rfl, h1, rfl, _, s6, x, dx, d, kvs, n, pv, rfl, h1, h2, by rw [hlen]; exact big_lt hl, ?_⟩
  refine q _ ?_
  refine BS.setSh (BS.change b.s h1 h2 h5 h6 E (kvs' := kvs ++ [(Sum.inl n, pv)]) ?_ ?_ upd_same ?_ fun a a1 a2 => ?_) (.int n)
  · show (kvs ++ [(Sum.inl n, pv)]).map Prod.fst = _
    rw [List.map_append, List.map_append, h3]; rfl
  · rw [List.map_append, List.map_append]
    exact h4.app (.cons r6 .nil)
  · rw [upd_ne (Ne.symm hxd), upd_same, putK_new pv (no_key h3 hn)]
  · rw [upd_ne a1, upd_ne a2]
theorem drop_keys {i : Int} : ∀ {kvs : List (Key × V)} {kds : List (Int × D)}, keysOf kvs kds → RepL Γ.K Γ.C G (kvs.map Prod.snd) (kds.map Prod.snd) → keysOf (dropK kvs (Sum.inl i)) (kds.filter fun p => decide (p.1 ≠ i)) ∧ RepL Γ.K Γ.C G ((dropK kvs (Sum.inl i)).map Prod.snd) ((kds.filter fun p => decide (p.1 ≠ i)).map Prod.snd)
  | [], kds, h, r => by
    cases kds with
    | nil => exact ⟨rfl, .nil⟩
    | cons _ _ => cases h
  | p :: kvs, kds, h, r => by
    cases kds with
    | nil => cases h
    | cons q kds =>
      have e1 : p.1 = Sum.inl q.1 := (List.cons.inj h).1
      cases r with
      | cons r1 r2 =>
        obtain ⟨i1, i2⟩ := drop_keys (i := i) (List.cons.inj h).2 r2
        unfold dropK at i1 i2 ⊢
        rw [List.filter_cons, List.filter_cons]
        by_cases c : q.1 = i
        · rw [if_neg (by rw [e1, c]; simp), if_neg (by simp [c])]
          exact ⟨i1, i2⟩
        · rw [if_pos (by rw [e1]; simp [c]), if_pos (by simp [c])]
          refine ⟨?_, .cons r1 i2⟩
          show p.1 :: _ = Sum.inl q.1 :: _
          rw [e1]
          exact congrArg _ i1
theorem yes_key {kvs : List (Key × V)} {i : Int} {v : V} (h3 : keysOf kvs kds) (h : valV kvs (Sum.inl i) = some v) : i ∈ kds.map Prod.fst := by
  have z := valV_in h
  have z : (Sum.inl i : Key) ∈ kvs.map Prod.fst := z
  rw [h3] at z
  obtain ⟨q, hq, e2⟩ := List.mem_map.mp z
  cases e2
  exact List.mem_map.mpr ⟨q, hq, rfl⟩
theorem none_key {kvs : List (Key × V)} {i : Int} (h3 : keysOf kvs kds) (h : valV kvs (Sum.inl i) = none) : i ∉ kds.map Prod.fst := fun z => by
  have z2 : (Sum.inl i : Key) ∈ kvs.map Prod.fst := by
    rw [h3]
    obtain ⟨q, hq, rfl⟩ := List.mem_map.mp z
    exact List.mem_map.mpr ⟨q, hq, rfl⟩
  exact valV_not h z2
theorem taken_ok {j : Nat} {i : Int} {Q : VK} (b : BS Γ x G H ρ σ kds n) (e1 : ρ[1]? = some (.sh (.adr x))) (ej : ρ[j]? = some (.sh (.int i))) (q1 : i ∈ kds.map Prod.fst → ∀ H', BS Γ x G H' ρ σ (kds.filter fun p => decide (p.1 ≠ i)) n → Q .non H') (q2 : i ∉ kds.map Prod.fst → Q (.str "no piece") H) :
    tCall (spTaken Γ.K) [] E0 (tCons (tVar 1) (tCons (tVar j) tNil)) σ H Q := by
  have s1 := b.at1 e1
  have sj := b.atI ej
  obtain ⟨dx, d, kvs, h1, h2, h3, h4, h5, h6, E⟩ := b.ex
  have hxd : x ≠ d := fun z => by rw [← z, h1] at h2; cases h2
  refine ⟨_, s1, _, sj, x, dx, d, kvs, n, i, rfl, h1, h2, fun v hv => q1 (yes_key h3 hv) _ ?_, fun hn => q2 (none_key h3 hn)⟩
  obtain ⟨k1, k2⟩ := drop_keys (i := i) h3 h4
  exact BS.change b.s h1 h2 h5 h6 E k1 k2 (by rw [upd_ne hxd]; exact h1) upd_same fun a a1 a2 => by rw [upd_ne a2]
theorem SL.frz {a : Addr} {od : Obj} {u : HO} (s : SL H H') (h : H a = some (.frz od u)) : H' a = some (.frz od u) := by
  rcases s a _ h with e | ⟨z, _⟩
  · exact e
  · exact z.elim
theorem right_ok {t6 : TE} {F6 : Env → Option D} {f : List D → Option D} {rows : List (Int × D)} {pt : D} {c : Bool} {Q : VK} (b : BS Γ x G H ρ σ kds n) (e1 : ρ[1]? = some (.sh (.adr x))) (e2 : ρ[2]? = some (.ow (.dci rows))) (e2o : ∀ i e, ρ[i]? = some (.ow e) → i = 2)
    (sv : SemV Γ .e t6 F6) (e6 : F6 (ρ.set 2 .no) = some pt) (ef : f [.brd (.dci kds) (.int n), .dci rows, pt] = some (.bl c)) (q : ∀ H', BS Γ x G H' ρ σ kds n → Q (.bl c) H') :
    tLockE (tLockE (tCall (spD Γ.K Γ.C f) [] E0 (tCons (tVar 1) (tCons (tVar 2) (tCons t6 tNil))))) σ H Q := by
  have s1 := b.at1 e1
  have bs := b.s
  obtain ⟨dx, d, kvs, h1, h2, h3, h4, h5, h6, E⟩ := b.ex
  obtain ⟨a, s2, a0, ag, rvs, r1, r2, r3⟩ := E.sl 2 _ e2
  have hax : a ≠ x := fun z => by rw [z, only_x, h1] at a0; cases a0
  have had : a ≠ d := fun z => by rw [z, only_d, h2] at a0; cases a0
  have hxd : x ≠ d := fun z => by rw [← z, h1] at h2; cases h2
  refine ⟨d, .dK kvs, h2, True.intro, fun od => ⟨a, .dK rvs, by rw [upd_ne had]; exact r1, True.intro, fun od2 => ?_⟩⟩
  generalize hH1 : upd (upd H d (.frz od (.dK kvs))) a (.frz od2 (.dK rvs)) = H1
  have k1x : H1 x = some (insB Γ.K dx d n) := by rw [← hH1, upd_ne (Ne.symm hax), upd_ne hxd]; exact h1
  have k1d : H1 d = some (.frz od (.dK kvs)) := by rw [← hH1, upd_ne (Ne.symm had), upd_same]
  have k1a : H1 a = some (.frz od2 (.dK rvs)) := by rw [← hH1, upd_same]
  have k1o : ∀ y, y ≠ d → y ≠ a → H1 y = H y := fun y y1 y2 => by rw [← hH1, upd_ne y2, upd_ne y1]
  have hG : ∃ G1 : Hp, (∀ y, (y = x ∨ y = d ∨ y = a) → G1 y = H1 y) ∧ ∀ y, ¬ (y = x ∨ y = d ∨ y = a) → G1 y = G y := ⟨fun y => if y = x ∨ y = d ∨ y = a then H1 y else G y, fun y h => if_pos h, fun y h => if_neg h⟩
  obtain ⟨G1, g1a, g1b⟩ := hG
  have nin : ∀ y o, G y = some o → ¬ (y = x ∨ y = d ∨ y = a) := fun y o e z => by
    rcases z with rfl | rfl | rfl
    · rw [h5] at e; cases e
    · rw [h6] at e; cases e
    · rw [ag] at e; cases e
  have sG : SL G G1 := fun y o e => .inl ((g1b y (nin y o e)).trans e)
  have s1' : SL G1 H1 := fun y o e => by
    by_cases c : y = x ∨ y = d ∨ y = a
    · rw [g1a y c] at e; exact .inl e
    · rw [g1b y c] at e
      rw [k1o y (fun z => c (.inr (.inl z))) fun z => c (.inr (.inr z))]
      exact bs y o e
  have hget : ∀ {j s}, (ρ.set 2 .no)[j]? = some s → s = .no ∨ (j ≠ 2 ∧ ρ[j]? = some s) := fun {j s} h => by
    by_cases hj : 2 = j
    · subst hj
      by_cases hl : 2 < ρ.length
      · rw [List.getElem?_set_self hl] at h; cases h; exact .inl rfl
      · rw [List.getElem?_eq_none (by simpa using hl)] at h; cases h
    · rw [List.getElem?_set_ne hj] at h
      exact .inr ⟨Ne.symm hj, h⟩
  have E1 : EnvOk Γ H1 G1 H1 (ρ.set 2 .no) σ := by
    refine ⟨by rw [List.length_set]; exact E.len, fun i s hs => ?_, fun i j e f a _ z _ _ => ?_⟩
    · rcases hget hs with rfl | ⟨hi, hs⟩
      · trivial
      · have z := E.sl i s hs
        cases s with
        | no => trivial
        | sh dv => obtain ⟨v, z1, z2⟩ := z; exact ⟨v, z1, z2.mono sG⟩
        | ow e => exact absurd (e2o i e hs) hi
    · rcases hget z with z | ⟨hi, z⟩
      · cases z
      · exact absurd (e2o i e z) hi
  refine ⟨_, s1, _, s2, ?_⟩
  refine sv H1 (ρ.set 2 .no) σ G1 H1 _ pt s1' E1 e6 fun G2 H2 v g2 o2 => ?_
  have rb : Rep Γ.K Γ.C G1 (.ref x) (.brd (.dci kds) (.int n)) := .brd ((g1a x (.inl rfl)).trans k1x) (.dci (.inr ⟨od, (g1a d (.inr (.inl rfl))).trans k1d⟩) h3 (h4.mono sG)) (.int n)
  have ra : Rep Γ.K Γ.C G1 (.ref a) (.dci rows) := .dci (.inr ⟨od2, (g1a a (.inr (.inr rfl))).trans k1a⟩) r2 (r3.mono sG)
  refine ⟨G2, [.brd (.dci kds) (.int n), .dci rows, pt], .bl c, g2.s, .cons (rb.mono g2.g) (.cons (ra.mono g2.g) (.cons o2 .nil)), ef, fun G3 H3 v3 g3 o3 => ?_⟩
  cases o3
  have s13 := g2.h.trans g3.h
  have k3a := SL.frz s13 k1a
  have k3d := SL.frz s13 k1d
  have k3x := s13.ins k1x
  refine ⟨k3a, by rw [upd_ne (Ne.symm had)]; exact k3d, q _ ⟨fun y o e => ?_, dx, d, kvs, ?_, upd_same, h3, h4, h5, h6, ?_⟩⟩
  · have c := nin y o e
    rw [upd_ne fun z => c (.inr (.inl z)), upd_ne fun z => c (.inr (.inr z))]
    exact ((sG.trans (g2.g.trans g3.g)).trans g3.s) y o e
  · rw [upd_ne hxd, upd_ne (Ne.symm hax)]; exact k3x
  · refine ⟨E.len, fun i s hs => ?_, E.ne⟩
    have z := E.sl i s hs
    cases s with
    | no => trivial
    | sh dv => exact z
    | ow e =>
      have hi := e2o i e hs
      subst hi
      rw [e2] at hs
      cases hs
      exact ⟨a, s2, only_no hax had, ag, rvs, by rw [upd_ne had, upd_same], r2, r3⟩
/-! ### Board() -/
structure HasBM (Γ : Gam) : Prop where
  ex : ∃ (j : Nat) (a : Addr) (fd : FuncData), j + 1 ≤ Γ.k ∧ Γ.mg "Board" = some (.ref (boardA Γ.K)) ∧ Mk Γ.K (boardA Γ.K) a ∧ Binds Γ.K fd ["self"] [] ∧ FnOk Γ.P Γ.w Γ.K Γ.mg Γ.base CX0 j a fd ["self"] (spBI Γ.K)
abbrev newB (K : PySem.W.Frag) (H : Hp) (x dx p : Addr) : Hp := upd (upd (upd (upd (upd H dx (.own x)) x (.ins (boardA K) dx [])) p (.dK [])) x (.ins (boardA K) dx [("rows", .ref p)])) x (insB K dx p 0)
theorem newB_o {K : PySem.W.Frag} {x dx p y : Addr} (h1 : y ≠ x) (h2 : y ≠ dx) (h3 : y ≠ p) : newB K H x dx p y = H y := by
  unfold newB
  rw [upd_ne h1, upd_ne h1, upd_ne h3, upd_ne h1, upd_ne h2]
theorem makeB_run {K : PySem.W.Frag} {Q : VK} (q : ∀ x dx p, H x = none → H dx = none → H p = none → x ≠ p → Q (.ref x) (newB K H x dx p)) : tMake (boardA K) (spBI K) [] E0 tNil σ H Q := by
  intro x dx hx hdx hne
  refine ⟨x, dx, rfl, upd_same, fun p hp => ⟨rfl, ?_⟩⟩
  have hpx : p ≠ x := fun z => by rw [z, upd_same] at hp; cases hp
  have hpd : p ≠ dx := fun z => by rw [upd_ne hpx, z, upd_same] at hp; cases hp
  rw [upd_ne hpx, upd_ne hpd] at hp
  exact q x dx p hx hdx hp (Ne.symm hpx)
theorem newB_x {K : PySem.W.Frag} {x dx p : Addr} : newB K H x dx p x = some (insB K dx p 0) := upd_same
theorem newB_p {K : PySem.W.Frag} {x dx p : Addr} (h : x ≠ p) : newB K H x dx p p = some (.dK []) := by
  unfold newB
  rw [upd_ne (Ne.symm h), upd_ne (Ne.symm h), upd_same]
theorem newB_k {K : PySem.W.Frag} {x dx p y : Addr} {o : HO} (h1 : H x = none) (h2 : H dx = none) (h3 : H p = none) (h : H y = some o) : newB K H x dx p y = some o := by
  rw [newB_o (ne_of_none h h1) (ne_of_none h h2) (ne_of_none h h3)]; exact h
theorem d_makeB {N : List Str} {sc : Scope} {p pos : Pos} (h : HasBM Γ) (hg : glB sc "Board" = true) : DV Γ N sc .e (.Call (.Name "Board" p) [] [] pos) (kc (.brd (.dci []) (.int 0))) := by
  obtain ⟨j, fa, fd, hj, hm, hk, hb, hF⟩ := h.ex
  refine ⟨tMake (boardA Γ.K) (spBI Γ.K) [] E0 tNil, fun X g => ?_, fun H0 ρ σ G H Q z s E e q => ?_⟩
  · exact pe_make0 (CX := CX0) (k := j) (f := fa) (fd := fd) (ps := ["self"]) (ds := []) (dvs := []) (by rw [g.K]; exact hk) (by rw [g.prog, g.w, g.K, g.mg, g.base]; exact hF) (g.room.mono hj) (gl_of g hg) (by rw [g.mg]; exact hm) (by rw [g.K]; exact hb) .nil pass0
  · cases e
    refine makeB_run fun x dx p hx hdx hp hxp => ?_
    have gx := s.free hx
    have gp := s.free hp
    refine q (upd (upd G p (.dK [])) x (insB Γ.K dx p 0)) _ _ ⟨(SL.new gp).trans (SL.new (by rw [upd_ne hxp]; exact gx)), fun y o e => .inl (newB_k hx hdx hp e), fun y o e => ?_, fun y h1 h2 => ?_, fun y o _ e => newB_k hx hdx hp e⟩ (.brd upd_same (.dci (.inl (by rw [upd_ne (Ne.symm hxp), upd_same])) rfl .nil) (.int 0))
    · by_cases c1 : y = x
      · subst c1; rw [upd_same] at e; cases e; exact .inl newB_x
      · rw [upd_ne c1] at e
        by_cases c2 : y = p
        · subst c2; rw [upd_same] at e; cases e; exact .inl (newB_p hxp)
        · rw [upd_ne c2] at e
          rcases s y o e with z | ⟨z, od, z2⟩
          · exact .inl (newB_k hx hdx hp z)
          · exact .inr ⟨z, od, newB_k hx hdx hp z2⟩
    · by_cases c1 : y = x
      · subst c1; exact .inl hx
      · rw [upd_ne c1] at h2
        by_cases c2 : y = p
        · subst c2; exact .inl hp
        · rw [upd_ne c2] at h2; exact absurd h1 h2
/-! ### the loop -/
theorem for_BS {wi : TI} {I : Env → Option (List D)} {gt : TG} {p : Pat} {tb : TS} {De : Ends} {items : List D} (si : SemI Γ wi I) (sg : SemG Γ gt p) (P : Nat → Env → List (Int × D) → Int → Prop) (b : BS Γ x G H ρ σ kds n) (hI : I ρ = some items) (p0 : P 0 ρ kds n)
    (step : ∀ i dv ρ kds n, items[i]? = some dv → P i ρ kds n → ∃ ρ1, bindP p dv ρ = some ρ1 ∧ ∀ G H σ De', BS Γ x G H ρ1 σ kds n → (∀ ρ' kds' n' G' H' σ', SL G G' → BS Γ x G' H' ρ' σ' kds' n' → P (i + 1) ρ' kds' n' → De'.nx σ' H') → De'.rt = De.rt → tb De' σ H)
    (after : ∀ ρ kds n G H σ, P items.length ρ kds n → BS Γ x G H ρ σ kds n → De.nx σ H) : tFor wi gt tb De σ H := by
  obtain ⟨dx, d, kvs, h1, h2, h3, h4, h5, h6, E⟩ := b.ex
  refine si _ ρ σ G H _ items b.s E hI fun J Gp Y G1 H1 g1 wk hGp hY => ?_
  refine for_it wk (fun i σ' H' => ∃ G' ρ' kds' n', SL G1 G' ∧ BS Γ x G' H' ρ' σ' kds' n' ∧ P i ρ' kds' n') ⟨G1, ρ, kds, n, SL.refl _, b.grow g1, p0⟩ (fun i σ' H' _ h => ?_) (fun i y σ2 H2 H3 hlt h hy => ?_) fun σ' H' h => ?_
  · obtain ⟨G', ρ', kds', n', s1, b', _⟩ := h
    exact hGp G' H' s1 b'.s
  · obtain ⟨G2, ρ2, kds2, n2, s2, b2, p2⟩ := h
    obtain ⟨G3, dv, hd, g3, r3⟩ := hY i H2 y H3 G2 hlt s2 b2.s hy
    obtain ⟨ρ3, eb, run⟩ := step i dv ρ2 kds2 n2 hd p2
    have b3 := b2.grow g3
    obtain ⟨dx3, d3, kvs3, m1, m2, m3, m4, m5, m6, E3⟩ := b3.ex
    refine sg _ ρ2 ρ3 σ2 G3 H3 y dv _ b3.s E3 eb r3 fun vs E4 => ?_
    exact run G3 H3 _ _ ⟨b3.s, dx3, d3, kvs3, m1, m2, m3, m4, m5, m6, E4⟩ (fun ρ' kds' n' G' H' σ' sl b' p' => ⟨G', ρ', kds', n', (s2.trans g3.g).trans sl, b', p'⟩) rfl
  · obtain ⟨G2, ρ2, kds2, n2, s2, b2, p2⟩ := h
    exact after ρ2 kds2 n2 G2 H' σ' p2 b2
end
end Pv
set_option Elab.async false
set_option linter.all false
set_option maxRecDepth 100000
set_option maxHeartbeats 4000000
set_option autoImplicit false
namespace Pv
open PySem PySem.Spec PyProof.Rows L2
local macro_rules | `(tactic| walk_at "pv") => `(tactic| simp only [wipe_nil, wipe_cons, sext_eq, sapp_eq, sput_eq, nxE_nx, farsD_n, turnsD_n, insideD_n, fM_eq, netB_n, seqD_d, sdrop_eq, slT_1, slL_1, slS_1, slT_2, slL_2, slS_2, slT_3, slL_3, slS_3, slT_4, slL_4, slS_4, slT_5, slL_5, slS_5, slT_6, slL_6, slS_6, slT_7, slL_7, slS_7, slT_8, slL_8, slS_8, slT_9, slL_9, slS_9, slT_10, slL_10, slS_10, slT_12, slL_12, slS_12, slT_16, slL_16, slS_16, listD_t, listD_l, sseq_eq, seqR_nx, seqR_rt, seqR_ite, endD_ite, bind_ite, sret_eq, sset_eq, sown_eq, sbind_eq, snx_eq, sif_eq, f1_eq, f2_eq, fN_eq, fcons_eq, fnil_eq, kc_eq, tv_eq, tb_eq, boolD_b, tor_eq, tand_eq, tnot_eq, vand_eq, vor_eq, spar_eq, iseq_eq, seqD_l, seqD_t, ienum_eq, enumD_l, enumD_t, irange1_eq, irange2_eq, fch_eq, chL_t, chL_f, fsl_eq, onone_eq, osome_eq, intO_i, sfor_eq, nm_0, nb_0, nbo_0, nm_s, nb_s, obs, obn, ls0, lsS, bindP1, bindT1, bindT2, bindT3, bindT4, tup0, tup1, tup2, tup3, tup4, lst0, lst1, lst2, lst3, lst4, lst5, lst7, lst8, isiD_i, isiD_ib, isiD_is, isiD_in, isiD_it, isiD_il, isiB_i, isiB_b, isiB_s, isiT_i, isiT_b, isiT_s, isiT_n, isiT_t, isiT_l, setE, addD_i, subD_i, negD_i, absD_i, ltD_i, leD_i, gtD_i, geD_i, eqD_i, neD_i, eqD_b, neD_b, isD_b, isntD_b, ixT0, ixT1, ixT2, ixT3, truD_b, truD_t, truD_l, lenD_t, lenD_l, notD_b, tupleD_l, tupleD_t, endD_ret, endD_rt, reduceIte, if_true, if_false, Bool.false_eq_true, Bool.not_true, Bool.not_false, decide_true, decide_false, Bool.true_eq, ne_eq])
local macro_rules | `(tactic| walk_at "pvs") => `(tactic| simp only [*, wipe_nil, wipe_cons, sext_eq, sapp_eq, sput_eq, nxE_nx, farsD_n, turnsD_n, insideD_n, fM_eq, netB_n, seqD_d, sdrop_eq, slT_1, slL_1, slS_1, slT_2, slL_2, slS_2, slT_3, slL_3, slS_3, slT_4, slL_4, slS_4, slT_5, slL_5, slS_5, slT_6, slL_6, slS_6, slT_7, slL_7, slS_7, slT_8, slL_8, slS_8, slT_9, slL_9, slS_9, slT_10, slL_10, slS_10, slT_12, slL_12, slS_12, slT_16, slL_16, slS_16, listD_t, listD_l, mulD_r, mulD_l, modD_i, fdivD_i, sseq_eq, seqR_nx, seqR_rt, seqR_ite, endD_ite, bind_ite, sret_eq, sset_eq, sown_eq, sbind_eq, snx_eq, sif_eq, f1_eq, f2_eq, fN_eq, fcons_eq, fnil_eq, kc_eq, tv_eq, tb_eq, boolD_b, tor_eq, tand_eq, tnot_eq, vand_eq, vor_eq, spar_eq, iseq_eq, seqD_l, seqD_t, ienum_eq, enumD_l, enumD_t, irange1_eq, irange2_eq, fch_eq, chL_t, chL_f, fsl_eq, onone_eq, osome_eq, intO_i, sfor_eq, nm_0, nb_0, nbo_0, nm_s, nb_s, obs, obn, ls0, lsS, bindP1, bindT1, bindT2, bindT3, bindT4, tup0, tup1, tup2, tup3, tup4, lst0, lst1, lst2, lst3, lst4, lst5, lst7, lst8, isiD_i, isiD_ib, isiD_is, isiD_in, isiD_it, isiD_il, isiB_i, isiB_b, isiB_s, isiT_i, isiT_b, isiT_s, isiT_n, isiT_t, isiT_l, setE, addD_i, subD_i, negD_i, absD_i, ltD_i, leD_i, gtD_i, geD_i, eqD_i, neD_i, eqD_b, neD_b, isD_b, isntD_b, ixT0, ixT1, ixT2, ixT3, truD_b, truD_t, truD_l, lenD_t, lenD_l, notD_b, tupleD_l, tupleD_t, endD_ret, endD_rt, reduceIte, if_true, if_false, Bool.false_eq_true, Bool.not_true, Bool.not_false, decide_true, decide_false, Bool.true_eq, ne_eq])
local macro_rules | `(tactic| walk_at "pvo") => `(tactic| simp (disch := omega) only [addD_l, addD_t, rng1D_i, rng2D_i, wipe_nil, wipe_cons, sext_eq, sapp_eq, sput_eq, nxE_nx, farsD_n, turnsD_n, insideD_n, fM_eq, netB_n, seqD_d, sdrop_eq, slT_1, slL_1, slS_1, slT_2, slL_2, slS_2, slT_3, slL_3, slS_3, slT_4, slL_4, slS_4, slT_5, slL_5, slS_5, slT_6, slL_6, slS_6, slT_7, slL_7, slS_7, slT_8, slL_8, slS_8, slT_9, slL_9, slS_9, slT_10, slL_10, slS_10, slT_12, slL_12, slS_12, slT_16, slL_16, slS_16, listD_t, listD_l, mulD_r, mulD_l, modD_i, fdivD_i, sseq_eq, seqR_nx, seqR_rt, seqR_ite, endD_ite, bind_ite, sret_eq, sset_eq, sown_eq, sbind_eq, snx_eq, sif_eq, f1_eq, f2_eq, fN_eq, fcons_eq, fnil_eq, kc_eq, tv_eq, tb_eq, boolD_b, tor_eq, tand_eq, tnot_eq, vand_eq, vor_eq, spar_eq, iseq_eq, seqD_l, seqD_t, ienum_eq, enumD_l, enumD_t, irange1_eq, irange2_eq, fch_eq, chL_t, chL_f, fsl_eq, onone_eq, osome_eq, intO_i, sfor_eq, nm_0, nb_0, nbo_0, nm_s, nb_s, obs, obn, ls0, lsS, bindP1, bindT1, bindT2, bindT3, bindT4, tup0, tup1, tup2, tup3, tup4, lst0, lst1, lst2, lst3, lst4, lst5, lst7, lst8, isiD_i, isiD_ib, isiD_is, isiD_in, isiD_it, isiD_il, isiB_i, isiB_b, isiB_s, isiT_i, isiT_b, isiT_s, isiT_n, isiT_t, isiT_l, setE, addD_i, subD_i, negD_i, absD_i, ltD_i, leD_i, gtD_i, geD_i, eqD_i, neD_i, eqD_b, neD_b, isD_b, isntD_b, ixT0, ixT1, ixT2, ixT3, truD_b, truD_t, truD_l, lenD_t, lenD_l, notD_b, tupleD_l, tupleD_t, endD_ret, endD_rt, reduceIte, if_true, if_false, Bool.false_eq_true, Bool.not_true, Bool.not_false, decide_true, decide_false, Bool.true_eq, ne_eq])
def gcdI (a b : Int) : Int := (Int.gcd a b : Nat)
theorem gcd_pos {a b : Int} (h : 0 < b) : 0 < gcdI a b := by
  unfold gcdI
  have : 0 < Int.gcd a b := Int.gcd_pos_of_ne_zero_right a (by omega)
  omega
theorem gcd_le {a b : Int} (h : 0 < b) : gcdI a b ≤ b := Int.le_of_dvd h (Int.gcd_dvd_right a b)
theorem gcd_dl {a b : Int} : gcdI a b ∣ a := Int.gcd_dvd_left a b
theorem gcd_dr {a b : Int} : gcdI a b ∣ b := Int.gcd_dvd_right a b
theorem gcd_step (a b : Int) : Int.gcd b (a % b) = Int.gcd a b := by
  have h : a % b + b * (a / b) = a := Int.emod_add_mul_ediv a b
  conv => rhs; rw [← h]
  rw [Int.gcd_comm b, Int.gcd_add_mul_left_left]
theorem c_common_t {a b : Int} (h : 0 ≤ b) (hb : b < 1000000000) : c_common [.int a, .int b] = some (.int (gcdI a b)) := by
  rw [st_common]
  unfold F_common
  walk_at "pv"
  rw [swhile_eq]
  obtain ⟨z, e, ok, g, j⟩ := whileD_ind (c := tb (f2 neD (nb 1) (kc (.int 0)))) (b := spar 0 1 (nm 1) (f2 modD (nb 0) (nb 1))) (fun s : Int × Int => [.sh (.int s.1), .sh (.int s.2)]) (fun s => 0 ≤ s.2) (fun s => !(s.2 == 0)) (fun s => (s.2, s.1 % s.2)) (fun s => s.2.toNat)
    (fun s hs => by walk_at "pv") (fun s hs hg => by
      have h0 : 0 < s.2 := by
        rcases Int.lt_or_eq_of_le hs with h | h
        · exact h
        · rw [← h] at hg; cases hg
      have h1 : 0 ≤ s.1 % s.2 := Int.emod_nonneg _ (by omega)
      have h2 : s.1 % s.2 < s.2 := Int.emod_lt_of_pos _ h0
      refine ⟨?_, h1, by show (s.1 % s.2).toNat < s.2.toNat; omega⟩
      walk_at "pvo") (fun s => Int.gcd s.1 s.2 = Int.gcd a b) (fun s hs hg hj => by rw [← hj]; exact gcd_step _ _) fuel (a, b) h rfl (by unfold fuel; show b.toNat < _; omega)
  rw [e]
  have h0 : z.2 = 0 := by simpa using g
  walk_at "pv"
  have j : Int.gcd z.1 z.2 = Int.gcd a b := j
  rw [h0, Int.gcd_zero_right] at j
  unfold gcdI
  rw [← j]
  congr 2
  split <;> omega
def nf (u l : Int) : D := .tup [.int (u / gcdI u l), .int (l / gcdI u l)]
theorem c_fraction_t {u l : Int} (h : 0 < l) (hl : l < 1000000000) : c_fraction [.int u, .int l] = some (nf u l) := by
  rw [st_fraction]
  unfold F_fraction
  have h1 := gcd_pos (a := u) h
  have h2 := gcd_le (a := u) h
  have h3 : ¬ l < 0 := by omega
  have h4 := c_common_t (a := u) (b := l) (by omega) hl
  walk_at "pv"
  rw [decide_eq_false h3, if_neg Bool.false_ne_true]
  rw [h4]
  walk_at "pvo"
  rfl
theorem c_less_t {a b c d : Int} (hb : 0 < b) (hd : 0 < d) (hl : b * d < 1000000000) (hb1 : b < 1000000000) (hd1 : d < 1000000000) : c_less [.tup [.int a, .int b], .tup [.int c, .int d]] = some (nf (a * d - c * b) (b * d)) := by
  rw [st_less]
  unfold F_less
  have h := c_fraction_t (u := a * d - c * b) (l := b * d) (Int.mul_pos hb hd) hl
  walk_at "pvo"
  rw [h]
theorem c_is_more_t {a b c d : Int} (hb : b.natAbs < 2 ^ 64) (hd : d.natAbs < 2 ^ 64) : c_is_more [.tup [.int a, .int b], .tup [.int c, .int d]] = some (.bl (decide (c * b < a * d))) := by
  rw [st_is_more]
  unfold F_is_more
  walk_at "pvo"
theorem c_on_round_t {u l : Int} (h : 0 < l) (hl : l < 1000000000) : c_on_round [.tup [.int u, .int l]] = some (nf (u % (24 * l)) l) := by
  rw [st_on_round]
  unfold F_on_round
  have h1 := c_fraction_t (u := u % (24 * l)) (l := l) h hl
  walk_at "pvo"
  rw [h1]
/-- a piece, a sheet, a point -/
structure Pc where
  i : Int
  o : Int
  b : Int
  w : Int
def eQ (q : Pc) : D := .tup [.int q.i, .int q.o, .int q.b, .int q.w]
def eS (s : List Pc) : D := .tup (s.map eQ)
structure Pc.Ok (m : Int) (q : Pc) : Prop where
  i0 : 0 ≤ q.i
  io : q.i < q.o
  om : q.o ≤ m
  b0 : 0 ≤ q.b
  b1 : q.b < 24
  w0 : 0 < q.w
  w1 : q.w ≤ 24
structure Pt where
  u : Int
  l : Int
  tu : Int
  tl : Int
def eP (p : Pt) : D := .tup [.tup [.int p.u, .int p.l], .tup [.int p.tu, .int p.tl]]
structure Pt.Ok (p : Pt) : Prop where
  l0 : 0 < p.l
  l1 : p.l < 1000000
  tl0 : 0 < p.tl
  tl1 : p.tl < 1000000
def hasM (q : Pc) (p : Pt) : Bool := decide (q.i * p.l ≤ p.u) && (decide (p.u < q.o * p.l) && decide ((p.tu - q.b * p.tl) % (24 * p.tl) < q.w * p.tl))
/-- two fractions made less, compared -/
theorem nf_lt {x y w g g' : Int} (hy : 0 < y) (hg : 0 < g) (hg' : 0 < g') (d1 : g ∣ x) (d2 : g ∣ y) (d3 : g' ∣ (x / g) % (24 * (y / g))) (d4 : g' ∣ y / g) : ((x / g) % (24 * (y / g)) / g' < w * ((y / g) / g')) ↔ x % (24 * y) < w * y := by
  obtain ⟨x1, rfl⟩ := d1
  obtain ⟨y1, rfl⟩ := d2
  rw [Int.mul_ediv_cancel_left _ (by omega), Int.mul_ediv_cancel_left _ (by omega)] at *
  have e : (g * x1) % (24 * (g * y1)) = g * (x1 % (24 * y1)) := by
    rw [← Int.mul_emod_mul_of_pos _ _ hg, Int.mul_left_comm]
  rw [e]
  generalize x1 % (24 * y1) = r at *
  obtain ⟨r1, rfl⟩ := d3
  obtain ⟨y2, rfl⟩ := d4
  rw [Int.mul_ediv_cancel_left _ (by omega), Int.mul_ediv_cancel_left _ (by omega)]
  rw [show w * (g * (g' * y2)) = (g * g') * (w * y2) by simp only [Int.mul_left_comm, Int.mul_comm], show g * (g' * r1) = (g * g') * r1 by rw [Int.mul_assoc]]
  exact (Int.mul_lt_mul_left (Int.mul_pos hg hg')).symm
theorem ediv_le' {y g : Int} (hy : 0 < y) (hg : 0 < g) : y / g ≤ y := Int.ediv_le_self _ (by omega)
theorem ediv_pos' {y g : Int} (hy : 0 < y) (hg : 0 < g) (d : g ∣ y) : 0 < y / g := Int.ediv_pos_of_pos_of_dvd hy (by omega) d
theorem c_has_t {m : Int} {q : Pc} {p : Pt} (hm : m < 1000000) (hq : q.Ok m) (hp : p.Ok) : c_has [eQ q, eP p] = some (.bl (hasM q p)) := by
  obtain ⟨i, o, b, w⟩ := q
  obtain ⟨u, l, tu, tl⟩ := p
  obtain ⟨i0, io, om, b0, b1, w0, w1⟩ := hq
  obtain ⟨l0, l1, t0, t1⟩ := hp
  simp only at *
  have e1 := c_is_more_t (a := i) (b := 1) (c := u) (d := l) (by omega) (by omega)
  have e2 := c_is_more_t (a := o) (b := 1) (c := u) (d := l) (by omega) (by omega)
  have e3 := c_less_t (a := tu) (b := tl) (c := b) (d := 1) t0 (by omega) (by omega) (by omega) (by omega)
  rw [Int.mul_one, Int.mul_one] at e3
  have g0 := gcd_pos (a := tu - b * tl) t0
  have y0 := ediv_pos' t0 g0 gcd_dr
  have y1 := ediv_le' t0 g0
  have e4 := c_on_round_t (u := (tu - b * tl) / gcdI (tu - b * tl) tl) (l := tl / gcdI (tu - b * tl) tl) y0 (by omega)
  have g1 := gcd_pos (a := (tu - b * tl) / gcdI (tu - b * tl) tl % (24 * (tl / gcdI (tu - b * tl) tl))) y0
  have y2 := ediv_pos' y0 g1 gcd_dr
  have y3 := ediv_le' y0 g1
  have k := nf_lt (w := w) t0 g0 g1 gcd_dl gcd_dr gcd_dl gcd_dr
  have e5 := c_is_more_t (a := w) (b := 1) (c := (tu - b * tl) / gcdI (tu - b * tl) tl % (24 * (tl / gcdI (tu - b * tl) tl)) / gcdI ((tu - b * tl) / gcdI (tu - b * tl) tl % (24 * (tl / gcdI (tu - b * tl) tl))) (tl / gcdI (tu - b * tl) tl)) (d := tl / gcdI (tu - b * tl) tl / gcdI ((tu - b * tl) / gcdI (tu - b * tl) tl % (24 * (tl / gcdI (tu - b * tl) tl))) (tl / gcdI (tu - b * tl) tl)) (by omega) (by omega)
  rw [Int.mul_one, decide_eq_decide.mpr k] at e5
  unfold nf at e3 e4
  rw [Int.mul_one] at e1 e2
  rw [st_has]
  unfold F_has eQ eP
  walk_at "pv"
  rw [e1, e2]
  walk_at "pv"
  rw [e3]
  walk_at "pv"
  rw [e4]
  walk_at "pv"
  rw [e5]
  unfold hasM
  simp only
  by_cases j1 : u < i * l
  · rw [decide_eq_true j1, decide_eq_false (show ¬ i * l ≤ u by omega)]; rfl
  · rw [decide_eq_false j1, decide_eq_true (show i * l ≤ u by omega)]
    by_cases j2 : u < o * l
    · rw [decide_eq_true j2]; rfl
    · rw [decide_eq_false j2]; rfl
def layersM (s : List Pc) (p : Pt) : List Nat := (s.zipIdx.filter fun q => hasM q.1 p).map Prod.snd
def eL (ns : List Nat) : D := .tup (ns.map fun k : Nat => D.int (k : Int))
theorem c_layers_t {m : Int} {s : List Pc} {p : Pt} (hm : m < 1000000) (hs : ∀ q ∈ s, q.Ok m) (hl : s.length < 1000) (hp : p.Ok) : c_layers [eS s, eP p] = some (eL (layersM s p)) := by
  rw [st_layers]
  unfold F_layers
  walk_at "pv"
  rw [lcF_map (fun q : Pc × Nat => D.tup [.int (q.2 : Int), eQ q.1]) (fun q => hasM q.1 p) (fun q => .int (q.2 : Int)) s.zipIdx (by
    unfold eS
    walk_at "pv"
    rw [numL_map]) (by rw [List.length_zipIdx]; unfold big; omega) (fun q hq => by
    have hq' : q.1 ∈ s := by
      have := List.mem_zipIdx hq
      obtain ⟨_, h1, h2⟩ := this
      rw [h2]; exact List.getElem_mem _
    have e := c_has_t hm (hs _ hq') hp
    refine ⟨_, bindT2, ?_, fun _ => ?_⟩
    · walk_at "pv"
      rw [e]
      walk_at "pv"
    · walk_at "pv")]
  walk_at "pv"
  unfold eL layersM
  rw [List.map_map]; rfl
def mixM (c p m : Int) : Int := c * 48271 % p % m
theorem mix_b {c p m : Int} (h : 0 < m) : 0 ≤ mixM c p m ∧ mixM c p m < m := ⟨Int.emod_nonneg _ (by omega), Int.emod_lt_of_pos _ h⟩
theorem c__law_mix_t {c p m : Int} (hp : 0 < p) (hm : 0 < m) : c__law_mix [.int c, .int p, .int m] = some (.int (mixM c p m)) := by
  rw [st__law_mix]
  unfold F__law_mix
  walk_at "pvo"
  rfl
def pieceM (c m : Int) : Pc := ⟨mixM c 9973 m, mixM c 9973 m + 1 + mixM c 9967 (m - mixM c 9973 m), mixM c 9941 24, if c % 4 = 0 then 24 else 1 + mixM c 9949 24⟩
theorem pieceM_ok {c m : Int} (hm : 0 < m) : (pieceM c m).Ok m := by
  have h1 := mix_b (c := c) (p := 9973) hm
  have h2 := mix_b (c := c) (p := 9967) (m := m - mixM c 9973 m) (by omega)
  have h3 := mix_b (c := c) (p := 9941) (m := 24) (by omega)
  have h4 := mix_b (c := c) (p := 9949) (m := 24) (by omega)
  refine ⟨?_, ?_, ?_, ?_, ?_, ?_, ?_⟩ <;> simp only [pieceM] <;> (try split) <;> omega
theorem c__law_piece_t {c m : Int} (hm : 0 < m) : c__law_piece [.int c, .int m] = some (eQ (pieceM c m)) := by
  have h1 := mix_b (c := c) (p := 9973) hm
  have e1 := c__law_mix_t (c := c) (p := 9973) (m := m) (by omega) hm
  have e2 := c__law_mix_t (c := c) (p := 9967) (m := m - mixM c 9973 m) (by omega) (by omega)
  have e3 := c__law_mix_t (c := c) (p := 9949) (m := 24) (by omega) (by omega)
  have e4 := c__law_mix_t (c := c) (p := 9941) (m := 24) (by omega) (by omega)
  rw [st__law_piece]
  unfold F__law_piece
  walk_at "pv"
  rw [e1]
  walk_at "pv"
  rw [e2]
  walk_at "pv"
  rw [e3]
  walk_at "pvo"
  unfold eQ pieceM
  by_cases h : c % 4 = 0
  · rw [if_pos (by rw [h]; rfl)]
    walk_at "pv"
    rw [e4]
    walk_at "pv"
    simp only [h, if_true]
  · rw [if_neg (by simpa using h)]
    walk_at "pv"
    rw [e4]
    walk_at "pv"
    simp only [h, if_false]
theorem gcdI_step (a b : Int) : gcdI b (a % b) = gcdI a b := by unfold gcdI; rw [gcd_step]
theorem law_w (u l a b : Int) (ha : 0 ≤ a) (hb : 0 ≤ b) (hl : b < 1000000000) : whileD (tb (f2 gtD (nb 3) (kc (.int 0)))) (spar 2 3 (nm 3) (f2 modD (nb 2) (nb 3))) fuel [.sh (.int u), .sh (.int l), .sh (.int a), .sh (.int b)] = some (.nx [.sh (.int u), .sh (.int l), .sh (.int (gcdI a b)), .sh (.int 0)]) := by
  have hf : b.toNat < fuel := by unfold fuel; omega
  generalize fuel = n at *
  obtain ⟨z, e, ok, g, j⟩ := whileD_ind (c := tb (f2 gtD (nb 3) (kc (.int 0)))) (b := spar 2 3 (nm 3) (f2 modD (nb 2) (nb 3))) (fun s : Int × Int => [.sh (.int u), .sh (.int l), .sh (.int s.1), .sh (.int s.2)]) (fun s => 0 ≤ s.1 ∧ 0 ≤ s.2) (fun s => decide (0 < s.2)) (fun s => (s.2, s.1 % s.2)) (fun s => s.2.toNat)
    (fun s hs => by walk_at "pv") (fun s hs hg => by
      have h0 : 0 < s.2 := by simpa using hg
      have h1 : 0 ≤ s.1 % s.2 := Int.emod_nonneg _ (by omega)
      have h2 : s.1 % s.2 < s.2 := Int.emod_lt_of_pos _ h0
      refine ⟨?_, ⟨hs.2, h1⟩, by show (s.1 % s.2).toNat < s.2.toNat; omega⟩
      walk_at "pvo") (fun s => gcdI s.1 s.2 = gcdI a b) (fun s hs hg hj => by rw [← hj]; exact gcdI_step _ _) n (a, b) ⟨ha, hb⟩ rfl hf
  have e : whileD (tb (f2 gtD (nb 3) (kc (.int 0)))) (spar 2 3 (nm 3) (f2 modD (nb 2) (nb 3))) n [.sh (.int u), .sh (.int l), .sh (.int a), .sh (.int b)] = some (.nx [.sh (.int u), .sh (.int l), .sh (.int z.1), .sh (.int z.2)]) := e
  have h0 : z.2 = 0 := by
    have h1 : ¬ 0 < z.2 := by simpa using g
    have h2 : 0 ≤ z.2 := ok.2
    omega
  have h3 : 0 ≤ z.1 := ok.1
  have j : gcdI z.1 z.2 = gcdI a b := j
  have j1 : z.1 = gcdI a b := by
    rw [← j, h0]; unfold gcdI; rw [Int.gcd_zero_right]; omega
  rw [e, j1, h0]
theorem c__law_fraction_t {u l : Int} (h : 0 < l) (hl : l < 1000000000) : c__law_fraction [.int u, .int l] = some (nf u l) := by
  rw [st__law_fraction]
  unfold F__law_fraction
  walk_at "pv"
  rw [swhile_eq]
  have ha : (if u < 0 then -u else u) = (u.natAbs : Int) := by split <;> omega
  rw [ha, law_w u l (u.natAbs : Int) l (by omega) (by omega) hl]
  have hg : gcdI (u.natAbs : Int) l = gcdI u l := by simp [gcdI, Int.gcd]
  rw [hg]
  have h1 := gcd_pos (a := u) h
  have h2 := gcd_le (a := u) h
  walk_at "pvo"
  rfl
def pointM (c m : Int) : Pt := ⟨(1 + mixM c 9929 (4 * m + 8)) / gcdI (1 + mixM c 9929 (4 * m + 8)) 4, 4 / gcdI (1 + mixM c 9929 (4 * m + 8)) 4, mixM c 9923 72 / gcdI (mixM c 9923 72) 3, 3 / gcdI (mixM c 9923 72) 3⟩
theorem pointM_ok {c m : Int} : (pointM c m).Ok := by
  have h1 := gcd_pos (a := 1 + mixM c 9929 (4 * m + 8)) (b := 4) (by omega)
  have h2 := gcd_pos (a := mixM c 9923 72) (b := 3) (by omega)
  have h3 := ediv_pos' (y := 4) (by omega) h1 gcd_dr
  have h4 := ediv_pos' (y := 3) (by omega) h2 gcd_dr
  have h5 := ediv_le' (y := 4) (by omega) h1
  have h6 := ediv_le' (y := 3) (by omega) h2
  refine ⟨?_, ?_, ?_, ?_⟩ <;> simp only [pointM] <;> omega
theorem c__law_point_t {c m : Int} (hm : 0 ≤ m) (hm2 : m < 1000000) : c__law_point [.int c, .int m] = some (eP (pointM c m)) := by
  have e1 := c__law_mix_t (c := c) (p := 9929) (m := 4 * m + 8) (by omega) (by omega)
  have e2 := c__law_mix_t (c := c) (p := 9923) (m := 72) (by omega) (by omega)
  have e3 := c__law_fraction_t (u := 1 + mixM c 9929 (4 * m + 8)) (l := 4) (by omega) (by omega)
  have e4 := c__law_fraction_t (u := mixM c 9923 72) (l := 3) (by omega) (by omega)
  rw [st__law_point]
  unfold F__law_point
  walk_at "pvo"
  rw [e1]
  walk_at "pv"
  rw [e3]
  walk_at "pv"
  rw [e2]
  walk_at "pv"
  rw [e4]
  walk_at "pv"
  rfl
theorem c__law_has_t {m : Int} {q : Pc} {p : Pt} (hm : m < 1000000) (hq : q.Ok m) (hp : p.Ok) : c__law_has [eQ q, .tup [.int p.u, .int p.l], .tup [.int p.tu, .int p.tl]] = some (.bl (hasM q p)) := by
  obtain ⟨i, o, b, w⟩ := q
  obtain ⟨u, l, tu, tl⟩ := p
  obtain ⟨i0, io, om, b0, b1, w0, w1⟩ := hq
  obtain ⟨l0, l1, t0, t1⟩ := hp
  simp only at *
  rw [st__law_has]
  unfold F__law_has eQ
  walk_at "pvo"
  unfold hasM
  simp only
  by_cases j1 : u < i * l
  · rw [decide_eq_true j1, decide_eq_false (show ¬ i * l ≤ u by omega)]; rfl
  · rw [decide_eq_false j1, decide_eq_true (show i * l ≤ u by omega)]
    by_cases j2 : u < o * l
    · rw [decide_eq_true j2, decide_eq_false (show ¬ o * l ≤ u by omega)]; rfl
    · rw [decide_eq_false j2, decide_eq_true (show o * l ≤ u by omega)]; rfl
theorem c__law_layers_t {m : Int} {s : List Pc} {p : Pt} (hm : m < 1000000) (hs : ∀ q ∈ s, q.Ok m) (hl : s.length < 1000) (hp : p.Ok) : c__law_layers [eS s, eP p] = some (eL (layersM s p)) := by
  rw [st__law_layers]
  unfold F__law_layers
  walk_at "pv"
  rw [lcF_map (fun q : Pc × Nat => D.tup [.int (q.2 : Int), eQ q.1]) (fun q => hasM q.1 p) (fun q => .int (q.2 : Int)) s.zipIdx (by
    unfold eS
    walk_at "pv"
    rw [numL_map]) (by rw [List.length_zipIdx]; unfold big; omega) (fun q hq => by
    have hq' : q.1 ∈ s := by
      have := List.mem_zipIdx hq
      obtain ⟨_, h1, h2⟩ := this
      rw [h2]; exact List.getElem_mem _
    have e := c__law_has_t hm (hs _ hq') hp
    refine ⟨_, bindT2, ?_, fun _ => ?_⟩
    · unfold eP
      walk_at "pv"
      rw [e]
      walk_at "pv"
    · walk_at "pv")]
  walk_at "pv"
  unfold eL layersM
  rw [List.map_map]; rfl
def hfU (x : Int) : Int := if x % 2 = 0 then x / 2 else x
def hfL (x : Int) : Int := if x % 2 = 0 then 1 else 2
theorem hf_cases (x : Int) : (x % 2 = 0 ∧ hfU x = x / 2 ∧ hfL x = 1) ∨ (x % 2 = 1 ∧ hfU x = x ∧ hfL x = 2) := by
  by_cases h : x % 2 = 0
  · exact .inl ⟨h, if_pos h, if_pos h⟩
  · exact .inr ⟨by omega, if_neg h, if_neg h⟩
def wd (T : List Int) (n : Nat) : Int := T.getD (n + 1) 24 - T.getD n 0
abbrev netD (L T : List Int) (i : D) : D := .net (.lst (L.map D.int)) (.lst (T.map D.int)) i
theorem c_half_t {x : Int} : c_half [.int x] = some (.tup [.int (hfU x), .int (hfL x)]) := by
  rw [st_half]
  unfold F_half
  walk_at "pvo"
  unfold hfU hfL
  by_cases h : x % 2 = 0
  · rw [if_pos (by rw [h]; rfl), if_pos h, if_pos h]
  · rw [if_neg (by simpa using h), if_neg h, if_neg h]
theorem getD_last {T : List Int} {n : Nat} {d : Int} (h : ¬ n < T.length) : T.getD n d = d := by
  rw [List.getD_eq_getElem?_getD, List.getElem?_eq_none (by omega)]; rfl
theorem getD_any {T : List Int} {n : Nat} {d e : Int} (h : n < T.length) : T.getD n d = T.getD n e := by
  rw [List.getD_eq_getElem?_getD, List.getD_eq_getElem?_getD, List.getElem?_eq_getElem h]; rfl
theorem c_Net_width_t {L T : List Int} {i : D} {n : Nat} (h : n < T.length) (hT : T.length < 1000) : c_Net_width [netD L T i, .int (n : Int)] = some (.int (wd T n)) := by
  rw [st_Net_width]
  unfold F_Net_width
  walk_at "pv"
  rw [List.length_map]
  by_cases h1 : n + 1 < T.length
  · rw [if_pos (by simp; omega), ixI (k := n + 1) (by omega) h1, ixI (k := n) rfl h]
    walk_at "pv"
    unfold wd
    rw [getD_any (d := 0) (e := 24) h1]
  · rw [if_neg (by simp; omega), ixI (k := n) rfl h]
    walk_at "pv"
    unfold wd
    rw [getD_last (d := 24) h1]
def cellPt (L T : List Int) (k n : Nat) : Pt :=
  if k + 1 < L.length then ⟨hfU (L.getD k 0 + L.getD (k + 1) 0), hfL (L.getD k 0 + L.getD (k + 1) 0), hfU (2 * T.getD n 0 + wd T n), hfL (2 * T.getD n 0 + wd T n)⟩
  else ⟨L.getD k 0 + 1, 1, hfU (2 * T.getD n 0 + wd T n), hfL (2 * T.getD n 0 + wd T n)⟩
theorem hfL_b {x : Int} : 0 < hfL x ∧ hfL x < 1000000 := by unfold hfL; split <;> omega
theorem cellPt_ok {L T : List Int} {k n : Nat} : (cellPt L T k n).Ok := by
  have h1 := hfL_b (x := 2 * T.getD n 0 + wd T n)
  have h2 := hfL_b (x := L.getD k 0 + L.getD (k + 1) 0)
  unfold cellPt
  split
  · exact ⟨h2.1, h2.2, h1.1, h1.2⟩
  · exact ⟨Int.zero_lt_one, (by decide : (1 : Int) < 1000000), h1.1, h1.2⟩
theorem c_Net_point_in_t {L T : List Int} {i : D} {k n : Nat} (hk : k < L.length) (h : n < T.length) (hT : T.length < 1000) : c_Net_point_in [netD L T i, .tup [.int (k : Int), .int (n : Int)]] = some (eP (cellPt L T k n)) := by
  rw [st_Net_point_in]
  unfold F_Net_point_in
  have e1 := c_Net_width_t (L := L) (i := i) h hT
  have i0 : ixD (.lst (L.map D.int)) (.int (k : Int)) = some (.int (L.getD k 0)) := ixI rfl hk
  have i1 : k + 1 < L.length → ixD (.lst (L.map D.int)) (.int ((k : Int) + 1)) = some (.int (L.getD (k + 1) 0)) := fun h => ixI (by omega) h
  have i2 : ixD (.lst (T.map D.int)) (.int (n : Int)) = some (.int (T.getD n 0)) := ixI rfl h
  walk_at "pv"
  rw [i0]
  walk_at "pv"
  rw [List.length_map]
  by_cases h1 : k + 1 < L.length
  · rw [if_pos (by simp; omega), i1 h1, i0]
    walk_at "pv"
    rw [c_half_t]
    walk_at "pv"
    rw [i2]
    walk_at "pv"
    rw [mulD_l (by decide)]
    walk_at "pv"
    rw [e1]
    walk_at "pv"
    rw [c_half_t]
    walk_at "pv"
    unfold cellPt
    rw [if_pos h1]; rfl
  · rw [if_neg (by simp; omega)]
    rw [i2]
    walk_at "pv"
    rw [mulD_l (by decide)]
    walk_at "pv"
    rw [e1]
    walk_at "pv"
    rw [c_half_t]
    walk_at "pv"
    unfold cellPt
    rw [if_neg h1]; rfl
/-- a piece over a small cell -/
def inC (q : Pc) (r t : Int) : Bool := decide (q.i ≤ r) && (decide (r < q.o) && decide ((t - q.b) % 24 < q.w))
def LY (s : List Pc) (r t : Int) : List Nat := (s.zipIdx.filter fun q => inC q.1 r t).map Prod.snd
/-- the breaks -/
structure Brk (L T : List Int) (q : Pc) : Prop where
  i : q.i ∈ L
  o : q.o ∈ L
  b : q.b ∈ T
  e : (q.b + q.w) % 24 ∈ T
structure UpT (L T : List Int) : Prop where
  l : L.Pairwise (· < ·)
  t : T.Pairwise (· < ·)
  t0 : ∀ x ∈ T, 0 ≤ x ∧ x < 24
theorem up_get {L : List Int} (h : L.Pairwise (· < ·)) {i j : Nat} (hij : i < j) (hj : j < L.length) : L.getD i 0 < L.getD j 0 := by
  rw [List.getD_eq_getElem?_getD, List.getD_eq_getElem?_getD, List.getElem?_eq_getElem hj, List.getElem?_eq_getElem (Nat.lt_trans hij hj)]
  exact List.pairwise_iff_getElem.mp h i j _ _ hij
theorem up_split {L : List Int} (h : L.Pairwise (· < ·)) {x : Int} (hx : x ∈ L) {k : Nat} (hk : k < L.length) : x ≤ L.getD k 0 ∨ (k + 1 < L.length ∧ L.getD (k + 1) 0 ≤ x) := by
  obtain ⟨j, hj, rfl⟩ := List.getElem_of_mem hx
  have e : L[j] = L.getD j 0 := by rw [List.getD_eq_getElem?_getD, List.getElem?_eq_getElem hj]; rfl
  rw [e]
  rcases Nat.lt_trichotomy j k with c | c | c
  · exact .inl (Int.le_of_lt (up_get h c hk))
  · subst c; exact .inl (Int.le_refl _)
  · refine .inr ⟨by omega, ?_⟩
    rcases Nat.eq_or_lt_of_le (show k + 1 ≤ j by omega) with e | e
    · subst e; exact Int.le_refl _
    · exact Int.le_of_lt (up_get h e hj)
theorem turn_cell {b w t e : Int} (b0 : 0 ≤ b) (b1 : b < 24) (w0 : 0 < w) (w1 : w ≤ 24) (t0 : 0 ≤ t) (te : t < e) (e1 : e ≤ 24) (hb : b ≤ t ∨ e ≤ b) (hf : (b + w) % 24 ≤ t ∨ e ≤ (b + w) % 24) :
    ((hfU (2 * t + (e - t)) - b * hfL (2 * t + (e - t))) % (24 * hfL (2 * t + (e - t))) < w * hfL (2 * t + (e - t)) ↔ (t - b) % 24 < w) := by
  rcases hf_cases (2 * t + (e - t)) with ⟨h1, h2, h3⟩ | ⟨h1, h2, h3⟩ <;> rw [h2, h3] <;> omega
theorem turn_next {T : List Int} (h : T.Pairwise (· < ·)) (h0 : ∀ x ∈ T, 0 ≤ x ∧ x < 24) {n : Nat} (hn : n < T.length) : 0 ≤ T.getD n 0 ∧ T.getD n 0 < T.getD (n + 1) 24 ∧ T.getD (n + 1) 24 ≤ 24 ∧ ∀ x ∈ T, x ≤ T.getD n 0 ∨ T.getD (n + 1) 24 ≤ x := by
  have hm : T.getD n 0 ∈ T := by
    rw [List.getD_eq_getElem?_getD, List.getElem?_eq_getElem hn]; exact List.getElem_mem _
  have h1 := h0 _ hm
  by_cases h2 : n + 1 < T.length
  · have hm2 : T.getD (n + 1) 0 ∈ T := by
      rw [List.getD_eq_getElem?_getD, List.getElem?_eq_getElem h2]; exact List.getElem_mem _
    have h3 := h0 _ hm2
    rw [getD_any (d := 24) (e := 0) h2]
    refine ⟨h1.1, up_get h (Nat.lt_succ_self n) h2, by omega, fun x hx => ?_⟩
    rcases up_split h hx hn with c | c
    · exact .inl c
    · exact .inr c.2
  · rw [getD_last h2]
    refine ⟨h1.1, h1.2, by omega, fun x hx => ?_⟩
    rcases up_split h hx hn with c | c
    · exact .inl c
    · exact absurd c.1 h2
theorem has_cell {L T : List Int} {m : Int} {q : Pc} (hq : q.Ok m) (B : Brk L T q) (U : UpT L T) {k n : Nat} (hk : k < L.length) (hn : n < T.length) : hasM q (cellPt L T k n) = inC q (L.getD k 0) (T.getD n 0) := by
  obtain ⟨i0, io, om, b0, b1, w0, w1⟩ := hq
  obtain ⟨t1, t2, t3, t4⟩ := turn_next U.t U.t0 hn
  have tc := turn_cell b0 b1 w0 w1 t1 t2 t3 (t4 _ B.b) (t4 _ B.e)
  have c1 := up_split U.l B.i hk
  have c2 := up_split U.l B.o hk
  unfold hasM inC cellPt wd
  by_cases h : k + 1 < L.length
  · rw [if_pos h]
    simp only
    rw [decide_eq_decide.mpr tc]
    have lt : L.getD k 0 < L.getD (k + 1) 0 := up_get U.l (Nat.lt_succ_self k) h
    have a1 : (q.i * hfL (L.getD k 0 + L.getD (k + 1) 0) ≤ hfU (L.getD k 0 + L.getD (k + 1) 0)) ↔ q.i ≤ L.getD k 0 := by
      rcases hf_cases (L.getD k 0 + L.getD (k + 1) 0) with ⟨h1, h2, h3⟩ | ⟨h1, h2, h3⟩ <;> rw [h2, h3] <;> omega
    have a2 : (hfU (L.getD k 0 + L.getD (k + 1) 0) < q.o * hfL (L.getD k 0 + L.getD (k + 1) 0)) ↔ L.getD k 0 < q.o := by
      rcases hf_cases (L.getD k 0 + L.getD (k + 1) 0) with ⟨h1, h2, h3⟩ | ⟨h1, h2, h3⟩ <;> rw [h2, h3] <;> omega
    rw [decide_eq_decide.mpr a1, decide_eq_decide.mpr a2]
  · rw [if_neg h]
    simp only
    rw [decide_eq_decide.mpr tc, Int.mul_one, Int.mul_one]
    rw [decide_eq_decide.mpr (show q.i ≤ L.getD k 0 + 1 ↔ q.i ≤ L.getD k 0 by omega), decide_eq_decide.mpr (show L.getD k 0 + 1 < q.o ↔ L.getD k 0 < q.o by omega)]
theorem layers_cell {L T : List Int} {m : Int} {s : List Pc} (hs : ∀ q ∈ s, q.Ok m) (B : ∀ q ∈ s, Brk L T q) (U : UpT L T) {k n : Nat} (hk : k < L.length) (hn : n < T.length) : layersM s (cellPt L T k n) = LY s (L.getD k 0) (T.getD n 0) := by
  unfold layersM LY
  rw [List.filter_congr fun q hq => ?_]
  obtain ⟨_, _, h2⟩ := List.mem_zipIdx hq
  have hm : q.1 ∈ s := by rw [h2]; exact List.getElem_mem _
  exact has_cell (hs _ hm) (B _ hm) U hk hn
/-- what the breaks are -/
def FL (s : List Pc) : List Int := 0 :: s.flatMap fun q => [q.i, q.o]
def TL (s : List Pc) : List Int := (s.flatMap fun q => [q.b, (q.b + q.w) % 24]) ++ [0]
def FA (s : List Pc) : List Int := sortU (FL s)
def TU (s : List Pc) : List Int := sortU (TL s)
theorem brk_of (s : List Pc) : ∀ q ∈ s, Brk (FA s) (TU s) q := fun q hq => by
  refine ⟨mem_sortU.mpr ?_, mem_sortU.mpr ?_, mem_sortU.mpr ?_, mem_sortU.mpr ?_⟩
  · exact List.mem_cons_of_mem _ (List.mem_flatMap.mpr ⟨q, hq, by simp⟩)
  · exact List.mem_cons_of_mem _ (List.mem_flatMap.mpr ⟨q, hq, by simp⟩)
  · exact List.mem_append_left _ (List.mem_flatMap.mpr ⟨q, hq, by simp⟩)
  · exact List.mem_append_left _ (List.mem_flatMap.mpr ⟨q, hq, by simp⟩)
theorem up_of {m : Int} {s : List Pc} (hs : ∀ q ∈ s, q.Ok m) : UpT (FA s) (TU s) := by
  refine ⟨sortU_up _, sortU_up _, fun x hx => ?_⟩
  rcases List.mem_append.mp (mem_sortU.mp hx) with h | h
  · obtain ⟨q, hq, h⟩ := List.mem_flatMap.mp h
    have := (hs q hq).b0
    have := (hs q hq).b1
    simp only [List.mem_cons, List.not_mem_nil, or_false] at h
    rcases h with rfl | rfl <;> omega
  · simp only [List.mem_cons, List.not_mem_nil, or_false] at h
    omega
theorem len_insU {x : Int} : ∀ {l : List Int}, (insU x l).length ≤ l.length + 1
  | [] => by simp [insU]
  | y :: l => by
    have := len_insU (x := x) (l := l)
    unfold insU
    split
    · simp
    · split
      · simp
      · simp; omega
theorem len_sortU : ∀ {l : List Int}, (sortU l).length ≤ l.length
  | [] => Nat.le_refl _
  | x :: l => by
    have h1 := len_insU (x := x) (l := sortU l)
    have h2 := len_sortU (l := l)
    show (insU x (sortU l)).length ≤ _
    rw [List.length_cons]; omega
theorem flat2_len {α : Type} {f g : α → Int} (s : List α) : (s.flatMap fun q => [f q, g q]).length = 2 * s.length := by
  induction s with
  | nil => rfl
  | cons q s ih => rw [List.flatMap_cons, List.length_append, ih, List.length_cons]; simp; omega
theorem FL_len (s : List Pc) : (FL s).length = 2 * s.length + 1 := by unfold FL; rw [List.length_cons, flat2_len]
theorem TL_len (s : List Pc) : (TL s).length = 2 * s.length + 1 := by unfold TL; rw [List.length_append, flat2_len]; rfl
def insF (s : List Pc) (k n : Nat) : D := eL (LY s ((FA s).getD k 0) ((TU s).getD n 0))
def netM (s : List Pc) : D := netD (FA s) (TU s) (.dct (dgrid (FA s).length (TU s).length (insF s)))
theorem FL_app {s : List Pc} {q : Pc} : FL (s ++ [q]) = FL s ++ [q.i, q.o] := by
  unfold FL; rw [List.flatMap_append]; rfl
theorem FA_len (s : List Pc) : (FA s).length ≤ 2 * s.length + 1 := Nat.le_trans len_sortU (by rw [FL_len]; exact Nat.le_refl _)
theorem TU_len (s : List Pc) : (TU s).length ≤ 2 * s.length + 1 := Nat.le_trans len_sortU (by rw [TL_len]; exact Nat.le_refl _)
theorem adrB_h {x : Addr} {ρ : Env} : adrB (.sh (.adr x) :: ρ) x = true := by
  show (x == x) = true
  exact beq_self_eq_true x
theorem forX_eq {α : Type} {I : Env → Option (List D)} {p : Pat} {step : α → Env → Option (α × Env)} {a : α} {ρ : Env} : forX I p step a ρ = (I ρ).bind fun items => forGo p step items a ρ := (rfl)
theorem unOw_sh {d : D} : unOw (.sh d) = .sh d := (rfl)
theorem unOw_ow {d : D} : unOw (.ow d) = .no := (rfl)
theorem unOw_n : unOw .no = .no := (rfl)
abbrev tls (s : List Pc) : List Int := s.flatMap fun q => [q.b, (q.b + q.w) % 24]
theorem n_F3_t {x : Addr} {s : List Pc} (hl : s.length ≤ 20) : nxP (n_F3 [.sh (.adr x), .sh (eS s), .ow (.lst [.int 0]), .ow (.lst []), .no, .no, .no, .no, .no, .no]) fun ρ => ∃ s4 s5 s6 s7, ρ = [.sh (.adr x), .sh (eS s), .ow (.lst ((FL s).map D.int)), .ow (.lst ((tls s).map D.int)), s4, s5, s6, s7, .no, .no] := by
  unfold n_F3
  unfold eS
  walk_at "pv"
  refine nxP_pre eQ (fun pre ρ => ∃ s4 s5 s6 s7, ρ = [.sh (.adr x), .sh (.tup (s.map eQ)), .ow (.lst ((FL pre).map D.int)), .ow (.lst ((tls pre).map D.int)), s4, s5, s6, s7, .no, .no]) s (fun pre q post hs ρ hρ => ?_) ⟨_, _, _, _, rfl⟩
  obtain ⟨s4, s5, s6, s7, rfl⟩ := hρ
  have hlen : pre.length < 20 := by
    have := congrArg List.length hs
    rw [List.length_append, List.length_cons] at this
    omega
  refine ⟨_, bindT4, ?_⟩
  walk_at "pv"
  rw [extAt_l rfl (by rw [List.length_map, FL_len]; unfold big; simp; omega)]
  walk_at "pv"
  rw [modD_i (by decide)]
  walk_at "pv"
  rw [extAt_l rfl (by rw [List.length_map, flat2_len]; unfold big; simp; omega)]
  walk_at "pv"
  refine nxP_nx ⟨.sh (.int q.i), .sh (.int q.o), .sh (.int q.b), .sh (.int q.w), ?_⟩
  rw [FL_app, List.map_append, show tls (pre ++ [q]) = tls pre ++ [q.b, (q.b + q.w) % 24] by unfold tls; rw [List.flatMap_append]; rfl, List.map_append]
  rfl
theorem net_val {m : Int} {s : List Pc} (hm : m < 1000000) (hs : ∀ q ∈ s, q.Ok m) (hl : s.length ≤ 20) {i : D} {k n : Nat} (hk : k < (FA s).length) (hn : n < (TU s).length) {s2 s3 s4 s5 s6 s7 : Sl} : n_Vf [.sh (netD (FA s) (TU s) i), .sh (eS s), s2, s3, s4, s5, s6, s7, .sh (.int (k : Int)), .sh (.int (n : Int))] = some (insF s k n) := by
  have e1 := c_Net_point_in_t (i := i) hk hn (by have := TU_len s; omega)
  have e2 := c_layers_t hm hs (by omega) (cellPt_ok (L := FA s) (T := TU s) (k := k) (n := n))
  rw [layers_cell hs (brk_of s) (up_of hs) hk hn] at e2
  unfold n_Vf
  walk_at "pv"
  rw [e1]
  walk_at "pv"
  rw [e2]; rfl
theorem c_Net_t {m : Int} {s : List Pc} (hm : m < 1000000) (hs : ∀ q ∈ s, q.Ok m) (hl : s.length ≤ 20) : c_Net (eS s) = some (netM s) := by
  have hF := FA_len s
  have hT := TU_len s
  refine anyX_i fun x => ?_
  unfold netF n_F1 n_F2
  walk_at "pv"
  obtain ⟨ρ, e, s4, s5, s6, s7, rfl⟩ := n_F3_t (x := x) hl
  rw [e]
  walk_at "pv"
  rw [if_pos adrB_h]
  unfold n_Ef n_Et
  walk_at "pv"
  rw [ssD_i (by rw [FL_len]; omega)]
  walk_at "pv"
  rw [addD_l (by rw [List.length_map, flat2_len]; unfold big; simp; omega)]
  walk_at "pv"
  rw [show (tls s).map D.int ++ [D.int 0] = (TL s).map D.int by unfold TL; rw [List.map_append]; rfl, ssD_i (by rw [TL_len]; omega)]
  walk_at "pv"
  simp only [List.map_cons, List.map_nil, unOw_sh, unOw_ow, unOw_n]
  walk_at "pv"
  rw [show sortU (FL s) = FA s from rfl, show sortU (TL s) = TU s from rfl, forX_eq]
  unfold n_Ik
  walk_at "pv"
  rw [List.length_map, rng1D_i (by omega), rangeL_nat]
  walk_at "pv"
  obtain ⟨z, ez, hz⟩ := forGo_range (p := .one 8) (step := forX n_In (.one 9) (putX n_Kf n_Vf)) (fun k kds ρ => kds = dgrid k (TU s).length (insF s) ∧ ∃ s2 s3 s4 s5 s6 s7 s8 s9, ρ = [.sh (netD (FA s) (TU s) .non), .sh (eS s), s2, s3, s4, s5, s6, s7, s8, s9]) (FA s).length (fun k hk a ρ ⟨ha, s2, s3, s4, s5, s6, s7, s8, s9, hρ⟩ => by
    subst ha hρ
    have inner : ∃ z, forX n_In (.one 9) (putX n_Kf n_Vf) (dgrid k (TU s).length (insF s)) [.sh (netD (FA s) (TU s) .non), .sh (eS s), s2, s3, s4, s5, s6, s7, .sh (.int (k : Int)), s9] = some z ∧ z.1 = dgrid (k + 1) (TU s).length (insF s) ∧ ∃ s2 s3 s4 s5 s6 s7 s8 s9, z.2 = [.sh (netD (FA s) (TU s) .non), .sh (eS s), s2, s3, s4, s5, s6, s7, s8, s9] := by
      rw [forX_eq]
      unfold n_In
      walk_at "pv"
      rw [List.length_map, rng1D_i (by omega), rangeL_nat]
      walk_at "pv"
      obtain ⟨z, ez, hz1, s9', hz2⟩ := forGo_range (p := .one 9) (step := putX n_Kf n_Vf) (fun n kds ρ => kds = dgrid k (TU s).length (insF s) ++ (List.range n).map (fun j => (kkey k j, insF s k j)) ∧ ∃ s9, ρ = [.sh (netD (FA s) (TU s) .non), .sh (eS s), s2, s3, s4, s5, s6, s7, .sh (.int (k : Int)), s9]) (TU s).length (fun n hn a ρ ⟨ha, s9, hρ⟩ => by
        subst ha hρ
        refine ⟨_, (dgrid k (TU s).length (insF s) ++ (List.range (n + 1)).map (fun j => (kkey k j, insF s k j)), [.sh (netD (FA s) (TU s) .non), .sh (eS s), s2, s3, s4, s5, s6, s7, .sh (.int (k : Int)), .sh (.int (n : Int))]), bindP1, ?_, rfl, .sh (.int (n : Int)), rfl⟩
        have e1 := net_val hm hs hl (i := .non) hk hn (s2 := s2) (s3 := s3) (s4 := s4) (s5 := s5) (s6 := s6) (s7 := s7)
        unfold putX
        walk_at "pv"
        rw [e1]
        unfold n_Kf
        walk_at "pv"
        show ((asInts ((kkey k n).map D.int)).bind _) = _
        rw [asInts_map]
        walk_at "pv"
        rw [if_pos (by
          rw [List.length_append, grid_len, List.length_map, List.length_range]
          have : k * (TU s).length ≤ 41 * 41 := Nat.mul_le_mul (by omega) (by omega)
          unfold big
          omega), put_grid hn]) (a := dgrid k (TU s).length (insF s)) (ρ := [.sh (netD (FA s) (TU s) .non), .sh (eS s), s2, s3, s4, s5, s6, s7, .sh (.int (k : Int)), s9]) ⟨by simp, s9, rfl⟩
      exact ⟨z, ez, by rw [hz1]; exact grid_s.symm, _, _, _, _, _, _, _, _, hz2⟩
    obtain ⟨z, e1, e2, e3⟩ := inner
    exact ⟨_, z, bindP1, e1, e2, e3⟩) (a := []) (ρ := [.sh (netD (FA s) (TU s) .non), .sh (eS s), .no, .no, unOw s4, unOw s5, unOw s6, unOw s7, .no, .no]) ⟨rfl, _, _, _, _, _, _, _, _, rfl⟩
  rw [ez]
  walk_at "pv"
  rw [hz.1]; rfl
theorem getD_mem {L : List Int} {k : Nat} (h : k < L.length) : L.getD k 0 ∈ L := by
  rw [List.getD_eq_getElem?_getD, List.getElem?_eq_getElem h]; exact List.getElem_mem _
def areaM (L T : List Int) (c : Nat × Nat) : Int := (L.getD (c.1 + 1) 0 * L.getD (c.1 + 1) 0 - L.getD c.1 0 * L.getD c.1 0) * wd T c.2
theorem c_Net_area_t {L T : List Int} {i : D} {k n : Nat} (hk : k + 1 < L.length) (hn : n < T.length) (hT : T.length < 1000) (hL : ∀ x ∈ L, x.natAbs < 2 ^ 64) (hw : (wd T n).natAbs < 2 ^ 64) : c_Net_area [netD L T i, .tup [.int (k : Int), .int (n : Int)]] = some (.int (areaM L T (k, n))) := by
  have e1 := c_Net_width_t (L := L) (i := i) hn hT
  have i0 : ixD (.lst (L.map D.int)) (.int (k : Int)) = some (.int (L.getD k 0)) := ixI rfl (by omega)
  have i1 : ixD (.lst (L.map D.int)) (.int ((k : Int) + 1)) = some (.int (L.getD (k + 1) 0)) := ixI (by omega) hk
  have l0 := hL _ (getD_mem (L := L) (k := k) (by omega))
  have l1 := hL _ (getD_mem (L := L) (k := k + 1) hk)
  rw [st_Net_area]
  unfold F_Net_area
  walk_at "pv"
  rw [List.length_map, if_neg (by simp; omega), i1]
  walk_at "pv"
  rw [mulD_r l1]
  walk_at "pv"
  rw [i0]
  walk_at "pv"
  rw [mulD_r l0]
  walk_at "pv"
  rw [e1]
  walk_at "pv"
  rw [mulD_r hw]
  rfl
theorem ixD_dk {kds : List (List Int × D)} {ns : List Int} : ixD (.dct kds) (.tup (ns.map D.int)) = getK kds ns := by
  show (asInts (ns.map D.int)).bind (fun ns => getK kds ns) = _
  rw [asInts_map]; rfl
def eC (c : Nat × Nat) : D := .tup [.int (c.1 : Int), .int (c.2 : Int)]
def cellsB (s : List Pc) : List (Nat × Nat) := grid ((FA s).length - 1) (TU s).length fun k n => (k, n)
theorem map_grid {α β : Type} {a b : Nat} {f : Nat → Nat → α} {g : α → β} : (grid a b f).map g = grid a b fun k n => g (f k n) := by
  unfold grid
  rw [List.map_flatMap]
  congr 1
  funext k
  rw [List.map_map]; rfl
theorem filter_grid {α : Type} {a b : Nat} {f : Nat → Nat → α} {t : α → Bool} (h : ∀ k n, k < a → n < b → t (f k n) = true) : (grid a b f).filter t = grid a b f := by
  rw [List.filter_eq_self]
  intro x hx
  obtain ⟨k, n, hk, hn, rfl⟩ := mem_grid.mp hx
  exact h k n hk hn
theorem filter_gridB {a b : Nat} : (grid (a + 1) b fun k n => (k, n)).filter (fun c => decide (c.1 + 1 < a + 1)) = grid a b fun k n => (k, n) := by
  rw [grid_s, List.filter_append, filter_grid (fun k n hk _ => by simpa using hk), List.filter_eq_nil_iff.mpr, List.append_nil]
  intro x hx
  obtain ⟨n, _, rfl⟩ := List.mem_map.mp hx
  simp
theorem FA_pos (s : List Pc) : 0 < (FA s).length := List.length_pos_of_mem (mem_sortU.mpr (List.mem_cons_self (a := (0 : Int))))
theorem TU_pos (s : List Pc) : 0 < (TU s).length := List.length_pos_of_mem (a := (0 : Int)) (mem_sortU.mpr (List.mem_append_right _ (by simp)))
theorem c_Net_bounded_t {s : List Pc} (hl : s.length ≤ 8) : c_Net_bounded [netM s] = some (.lst ((cellsB s).map eC)) := by
  have hF := FA_len s
  have hT := TU_len s
  have hp := FA_pos s
  obtain ⟨a, ha⟩ : ∃ a, (FA s).length = a + 1 := ⟨(FA s).length - 1, by omega⟩
  rw [st_Net_bounded]
  unfold F_Net_bounded netM
  walk_at "pv"
  rw [lcF_map eC (fun c => decide (c.1 + 1 < (FA s).length)) eC (grid (FA s).length (TU s).length fun k n => (k, n)) (by
    walk_at "pv"
    rw [map_grid, map_grid]; rfl) (by
    rw [grid_len]
    have : (FA s).length * (TU s).length ≤ 17 * 17 := Nat.mul_le_mul (by omega) (by omega)
    unfold big
    omega) (fun c hc => ⟨_, bindP1, by
      unfold eC
      walk_at "pv"
      rw [List.length_map]
      rw [decide_eq_decide.mpr (show (c.1 : Int) + 1 < ((FA s).length : Nat) ↔ c.1 + 1 < (FA s).length by omega)], fun _ => by walk_at "pv"⟩)]
  unfold cellsB
  rw [ha, filter_gridB, Nat.add_sub_cancel]
theorem FA_b {m : Int} {s : List Pc} (h0 : 0 ≤ m) (hs : ∀ q ∈ s, q.Ok m) : ∀ x ∈ FA s, 0 ≤ x ∧ x ≤ m := fun x hx => by
  rcases List.mem_cons.mp (mem_sortU.mp hx) with rfl | h
  · omega
  · obtain ⟨q, hq, h⟩ := List.mem_flatMap.mp h
    have h1 := (hs q hq).i0
    have h2 := (hs q hq).io
    have h3 := (hs q hq).om
    simp only [List.mem_cons, List.not_mem_nil, or_false] at h
    rcases h with rfl | rfl <;> omega
theorem wd_b {m : Int} {s : List Pc} (hs : ∀ q ∈ s, q.Ok m) {n : Nat} (hn : n < (TU s).length) : 0 < wd (TU s) n ∧ wd (TU s) n ≤ 24 := by
  obtain ⟨t1, t2, t3, t4⟩ := turn_next (up_of hs).t (up_of hs).t0 hn
  unfold wd
  omega
theorem LY_le {s : List Pc} {r t : Int} : (LY s r t).length ≤ s.length := by
  unfold LY
  rw [List.length_map]
  exact Nat.le_trans (List.length_filter_le _ _) (by rw [List.length_zipIdx]; exact Nat.le_refl _)
def addAt (f : List Int) (j : Nat) (a : Int) : List Int := if 0 < j then f.set (j - 1) (f.getD (j - 1) 0 + a) else f
theorem addAt_len {f : List Int} {j : Nat} {a : Int} : (addAt f j a).length = f.length := by unfold addAt; split <;> simp
def LYc (s : List Pc) (c : Nat × Nat) : List Nat := LY s ((FA s).getD c.1 0) ((TU s).getD c.2 0)
def depthM (s : List Pc) : List Int := (cellsB s).foldl (fun f c => addAt f (LYc s c).length (areaM (FA s) (TU s) c)) (List.replicate s.length 0)
theorem lenD_eL {ns : List Nat} : lenD (eL ns) = some (.int (ns.length : Nat)) := by
  unfold eL
  rw [lenD_t, List.length_map]
theorem mem_cellsB {s : List Pc} {c : Nat × Nat} (h : c ∈ cellsB s) : c.1 + 1 < (FA s).length ∧ c.2 < (TU s).length := by
  obtain ⟨k, n, hk, hn, rfl⟩ := mem_grid.mp h
  exact ⟨by simp only; omega, hn⟩
theorem c_depth_areas_t {m : Int} {s : List Pc} (h0 : 0 ≤ m) (hm : m < 1000000) (hs : ∀ q ∈ s, q.Ok m) (hl : s.length ≤ 8) : c_depth_areas [eS s] = some (.tup ((depthM s).map D.int)) := by
  have hT := TU_len s
  have eN := c_Net_t hm hs (by omega)
  have eB := c_Net_bounded_t hl
  rw [st_depth_areas]
  unfold F_depth_areas
  walk_at "pv"
  rw [eN]
  walk_at "pv"
  have eI : lcF [5] (iseq (nm 0)) (.one 5) tyes (kc (.int 0)) [.sh (eS s), .sh (netM s), .no, .no, .no, .no] = some (.lst ((List.replicate s.length (0 : Int)).map D.int)) := by
    rw [lcF_all eQ (fun _ => .int 0) s (by unfold eS; walk_at "pv") (by unfold big; omega) (fun q _ => ⟨_, bindP1, by walk_at "pv"⟩)]
    rw [List.map_replicate, List.map_const']
  rw [eI]
  walk_at "pv"
  have net1 : netB (netM s) = true := rfl
  rw [if_pos net1, eB]
  walk_at "pv"
  refine endP_seq (nxP_fold eC (fun f c => addAt f (LYc s c).length (areaM (FA s) (TU s) c)) (fun f ρ => f.length = s.length ∧ ∃ s3 s4 s5, ρ = [.sh (eS s), .sh (netM s), .ow (.lst (f.map D.int)), s3, s4, s5]) (cellsB s) (List.replicate s.length 0) (fun c hc f ρ ⟨hf, s3, s4, s5, hρ⟩ => ?_) ⟨by simp, _, _, _, rfl⟩) (fun ρ ⟨_, s3, s4, s5, hρ⟩ => ?_)
  · subst hρ
    obtain ⟨hc1, hc2⟩ := mem_cellsB hc
    refine ⟨_, bindP1, ?_⟩
    have e1 : (f1 insideD (nb 1)) [.sh (eS s), .sh (netM s), .ow (.lst (f.map D.int)), .sh (eC c), s4, s5] = some (.dct (dgrid (FA s).length (TU s).length (insF s))) := rfl
    have e2 : ixD (.dct (dgrid (FA s).length (TU s).length (insF s))) (eC c) = some (eL (LYc s c)) := by
      exact (ixD_dk (ns := kkey c.1 c.2)).trans (getK_grid (by omega) hc2)
    have e3 := c_Net_area_t (L := FA s) (T := TU s) (i := .dct (dgrid (FA s).length (TU s).length (insF s))) hc1 hc2 (by omega) (fun x hx => by have := FA_b h0 hs x hx; omega) (by have := wd_b hs hc2; omega)
    have e3' : c_Net_area [netM s, eC c] = some (.int (areaM (FA s) (TU s) c)) := e3
    have hle := LY_le (s := s) (r := (FA s).getD c.1 0) (t := (TU s).getD c.2 0)
    have hle : (LYc s c).length ≤ s.length := hle
    rw [sseq_eq, sset_eq, f1_eq, f2_eq]
    walk_at "pv"
    rw [show insideD (netM s) = some (.dct (dgrid (FA s).length (TU s).length (insF s))) from rfl]
    walk_at "pv"
    rw [e2]
    walk_at "pv"
    rw [lenD_eL]
    walk_at "pv"
    unfold addAt
    by_cases hj : 0 < (LYc s c).length
    · rw [decide_eq_true (show (0 : Int) < ((LYc s c).length : Nat) by omega), if_pos rfl, if_pos hj]
      rw [ixI (k := (LYc s c).length - 1) (by omega) (by omega)]
      walk_at "pv"
      rw [if_pos net1, e3']
      walk_at "pv"
      rw [putAt_l ((LYc s c).length - 1) rfl (by omega) (by rw [List.length_map]; omega)]
      refine nxP_nx ⟨by simp [hf], .sh (eC c), .sh (.int ((LYc s c).length : Nat)), s5, ?_⟩
      rw [← List.map_set]; rfl
    · rw [decide_eq_false (show ¬ (0 : Int) < ((LYc s c).length : Nat) by omega), if_neg Bool.false_ne_true, if_neg hj]
      exact nxP_nx ⟨hf, _, _, _, rfl⟩
  · subst hρ
    walk_at "pv"
    rfl
def sumN : Nat → (Nat → Int) → Int
  | 0, _ => 0
  | n + 1, f => sumN n f + f n
theorem sumN_congr {f g : Nat → Int} : ∀ {n : Nat}, (∀ i, i < n → f i = g i) → sumN n f = sumN n g
  | 0, _ => rfl
  | n + 1, h => by
    show sumN n f + f n = sumN n g + g n
    rw [sumN_congr fun i hi => h i (by omega), h n (by omega)]
theorem sumN_add {f : Nat → Int} (p : Nat) : ∀ d : Nat, sumN (p + d) f = sumN p f + sumN d fun i => f (p + i)
  | 0 => by show sumN p f = sumN p f + 0; omega
  | d + 1 => by
    show sumN (p + d) f + f (p + d) = sumN p f + (sumN d (fun i => f (p + i)) + f (p + d))
    rw [sumN_add p d]; omega
theorem sumN_zero {f : Nat → Int} : ∀ {n : Nat}, (∀ i, i < n → f i = 0) → sumN n f = 0
  | 0, _ => rfl
  | n + 1, h => by
    show sumN n f + f n = 0
    rw [sumN_zero fun i hi => h i (by omega), h n (by omega)]; rfl
theorem sumN_mul {f : Nat → Int} {c : Int} : ∀ {n : Nat}, sumN n (fun i => f i * c) = sumN n f * c
  | 0 => by show 0 = 0 * c; omega
  | n + 1 => by
    show sumN n (fun i => f i * c) + f n * c = (sumN n f + f n) * c
    rw [sumN_mul, Int.add_mul]
theorem sumN_plus {f g : Nat → Int} : ∀ {n : Nat}, sumN n (fun i => f i + g i) = sumN n f + sumN n g
  | 0 => rfl
  | n + 1 => by
    show sumN n (fun i => f i + g i) + (f n + g n) = (sumN n f + f n) + (sumN n g + g n)
    rw [sumN_plus]; omega
theorem range_sum {f : Nat → Int} : ∀ {n : Nat}, ((List.range n).map f).sum = sumN n f
  | 0 => rfl
  | n + 1 => by
    rw [map_range_s, List.sum_append, range_sum]
    show sumN n f + (f n + 0) = sumN n f + f n
    omega
theorem grid_sum {α : Type} {a b : Nat} {f : Nat → Nat → α} {g : α → Int} : ((grid a b f).map g).sum = sumN a fun k => sumN b fun n => g (f k n) := by
  induction a with
  | zero => rfl
  | succ a ih =>
    rw [grid_s, List.map_append, List.sum_append, ih, List.map_map, range_sum]; rfl
theorem block_sum (h G : Int → Int) (p : Int) : ∀ d : Nat, (∀ i : Nat, i < d → h (p + i) = h p) → sumN d (fun i => h (p + (i : Int)) * (G (p + (i : Int) + 1) - G (p + (i : Int)))) = h p * (G (p + (d : Int)) - G p)
  | 0, _ => by show 0 = h p * (G (p + 0) - G p); rw [Int.add_zero, Int.sub_self, Int.mul_zero]
  | d + 1, c => by
    show sumN d _ + h (p + (d : Int)) * (G (p + (d : Int) + 1) - G (p + (d : Int))) = _
    rw [block_sum h G p d fun i hi => c i (by omega), c d (by omega), ← Int.mul_add]
    congr 1
    rw [show p + ((d + 1 : Nat) : Int) = p + (d : Int) + 1 by omega]
    omega
theorem refine1 (l : Nat → Int) (h G : Int → Int) (h0 : l 0 = 0) : ∀ a : Nat, (∀ k, k < a → 0 ≤ l k ∧ l k ≤ l (k + 1)) → (∀ k, k < a → ∀ r, l k ≤ r → r < l (k + 1) → h r = h (l k)) →
    sumN (l a).toNat (fun r => h (r : Int) * (G ((r : Int) + 1) - G (r : Int))) = sumN a fun k => h (l k) * (G (l (k + 1)) - G (l k))
  | 0, _, _ => by rw [h0]; rfl
  | a + 1, mono, cst => by
    obtain ⟨m0, m1⟩ := mono a (by omega)
    have ih := refine1 l h G h0 a (fun k hk => mono k (by omega)) fun k hk => cst k (by omega)
    obtain ⟨p, hp⟩ := Int.ex_nat m0
    obtain ⟨d, hd⟩ : ∃ d : Nat, l (a + 1) = (p : Int) + (d : Int) := ⟨(l (a + 1) - l a).toNat, by omega⟩
    have b := block_sum h G (l a) d fun i hi => cst a (by omega) _ (by omega) (by omega)
    show _ = sumN a _ + h (l a) * (G (l (a + 1)) - G (l a))
    rw [← ih, show (l (a + 1)).toNat = p + d by omega, sumN_add, show (l a).toNat = p by omega]
    congr 1
    rw [hd, ← hp, ← b]
    refine sumN_congr fun i _ => ?_
    rw [show ((p + i : Nat) : Int) = l a + (i : Int) by omega]
theorem head_zero {L : List Int} (h : L.Pairwise (· < ·)) (h0 : (0 : Int) ∈ L) (hb : ∀ x ∈ L, 0 ≤ x) : L.getD 0 0 = 0 := by
  have hp := List.length_pos_of_mem h0
  have h1 := hb _ (getD_mem hp)
  obtain ⟨j, hj, e⟩ := List.getElem_of_mem h0
  have e : L.getD j 0 = 0 := by rw [List.getD_eq_getElem?_getD, List.getElem?_eq_getElem hj]; exact e
  rcases Nat.eq_zero_or_pos j with c | c
  · rw [c] at e; exact e
  · have h2 : L.getD 0 0 < L.getD j 0 := up_get h c hj
    omega
theorem LY_congr {s : List Pc} {r t r' t' : Int} (h : ∀ q ∈ s, inC q r t = inC q r' t') : LY s r t = LY s r' t' := by
  unfold LY
  rw [List.filter_congr fun q hq => ?_]
  obtain ⟨_, _, h2⟩ := List.mem_zipIdx hq
  exact h _ (by rw [h2]; exact List.getElem_mem _)
theorem inC_turn {q : Pc} {r t e u : Int} {m : Int} (hq : q.Ok m) (t0 : 0 ≤ t) (e1 : e ≤ 24) (hb : q.b ≤ t ∨ e ≤ q.b) (hf : (q.b + q.w) % 24 ≤ t ∨ e ≤ (q.b + q.w) % 24) (h1 : t ≤ u) (h2 : u < e) : inC q r u = inC q r t := by
  obtain ⟨i0, io, om, b0, b1, w0, w1⟩ := hq
  unfold inC
  rw [decide_eq_decide.mpr (show (u - q.b) % 24 < q.w ↔ (t - q.b) % 24 < q.w by omega)]
theorem inC_ring {q : Pc} {r e u t : Int} (hi : q.i ≤ r ∨ e ≤ q.i) (ho : q.o ≤ r ∨ e ≤ q.o) (h1 : r ≤ u) (h2 : u < e) : inC q u t = inC q r t := by
  unfold inC
  rw [decide_eq_decide.mpr (show q.i ≤ u ↔ q.i ≤ r by omega), decide_eq_decide.mpr (show u < q.o ↔ r < q.o by omega)]
theorem turn_sum {m : Int} {s : List Pc} (hs : ∀ q ∈ s, q.Ok m) (g : Int → Int) (hg : ∀ t u : Int, (∀ q ∈ s, ∀ r, inC q r t = inC q r u) → g t = g u) : sumN (TU s).length (fun n => g ((TU s).getD n 0) * wd (TU s) n) = sumN 24 fun t => g (t : Int) := by
  have U := up_of hs
  have hp := TU_pos s
  have h0 := head_zero U.t (mem_sortU.mpr (List.mem_append_right _ (by simp))) (fun x hx => (U.t0 x hx).1)
  have nx : ∀ n, n < (TU s).length → (TU s).getD n 24 = (TU s).getD n 0 := fun n hn => getD_any hn
  have key := refine1 (fun n => (TU s).getD n 24) g (fun x => x) (by show (TU s).getD 0 24 = 0; rw [nx 0 hp, h0]) (TU s).length (fun k hk => by
      obtain ⟨t1, t2, t3, t4⟩ := turn_next U.t U.t0 hk
      rw [nx k hk]
      omega) (fun k hk r h1 h2 => by
      obtain ⟨t1, t2, t3, t4⟩ := turn_next U.t U.t0 hk
      rw [nx k hk] at h1 ⊢
      exact hg _ _ fun q hq x => inC_turn (hs q hq) t1 t3 (t4 _ (brk_of s q hq).b) (t4 _ (brk_of s q hq).e) h1 h2)
  rw [show (TU s).getD (TU s).length 24 = 24 from getD_last (Nat.lt_irrefl _)] at key
  refine Eq.trans (sumN_congr fun n hn => ?_) (key.symm.trans (sumN_congr fun t _ => ?_))
  · unfold wd
    rw [nx n hn]
  · rw [show ((t : Int) + 1 - (t : Int)) = 1 by omega, Int.mul_one]
theorem LY_far {m : Int} {s : List Pc} (hs : ∀ q ∈ s, q.Ok m) {r t : Int} (h : (FA s).getD ((FA s).length - 1) 0 ≤ r) : LY s r t = [] := by
  unfold LY
  rw [List.filter_eq_nil_iff.mpr, List.map_nil]
  intro q hq hc
  obtain ⟨_, _, h2⟩ := List.mem_zipIdx hq
  have hm : q.1 ∈ s := by rw [h2]; exact List.getElem_mem _
  have hp := FA_pos s
  unfold inC at hc
  simp only [Bool.and_eq_true, decide_eq_true_eq] at hc
  rcases up_split (up_of hs).l (brk_of s _ hm).o (show (FA s).length - 1 < (FA s).length by omega) with c | c
  · omega
  · omega
theorem coarse_fine {M : Nat} {s : List Pc} (hs : ∀ q ∈ s, q.Ok (M : Int)) (φ : List Nat → Int) (h0 : φ [] = 0) :
    ((cellsB s).map fun c => φ (LYc s c) * areaM (FA s) (TU s) c).sum = sumN (M + 1) fun r => sumN 24 fun t => φ (LY s (r : Int) (t : Int)) * (2 * (r : Int) + 1) := by
  have U := up_of hs
  have hp := FA_pos s
  have hb := FA_b (show (0 : Int) ≤ M by omega) hs
  have z0 := head_zero U.l (mem_sortU.mpr List.mem_cons_self) (fun x hx => (hb x hx).1)
  unfold cellsB
  rw [grid_sum]
  have e1 : ∀ k, sumN (TU s).length (fun n => φ (LYc s (k, n)) * areaM (FA s) (TU s) (k, n)) = (sumN 24 fun t => φ (LY s ((FA s).getD k 0) (t : Int))) * ((FA s).getD (k + 1) 0 * (FA s).getD (k + 1) 0 - (FA s).getD k 0 * (FA s).getD k 0) := fun k => by
    rw [← turn_sum hs (fun t => φ (LY s ((FA s).getD k 0) t)) fun t u h => by rw [LY_congr fun q hq => h q hq _], ← sumN_mul]
    refine sumN_congr fun n _ => ?_
    show φ (LY s ((FA s).getD k 0) ((TU s).getD n 0)) * (((FA s).getD (k + 1) 0 * (FA s).getD (k + 1) 0 - (FA s).getD k 0 * (FA s).getD k 0) * wd (TU s) n) = _
    rw [Int.mul_comm (_ - _) (wd _ _), ← Int.mul_assoc]
  rw [sumN_congr fun k _ => e1 k]
  have key := refine1 (fun k => (FA s).getD k 0) (fun x => sumN 24 fun t => φ (LY s x (t : Int))) (fun x => x * x) z0 ((FA s).length - 1) (fun k hk => by
      have h1 := hb _ (getD_mem (L := FA s) (k := k) (by omega))
      have h2 : (FA s).getD k 0 < (FA s).getD (k + 1) 0 := up_get U.l (by omega) (by omega)
      omega) (fun k hk r h1 h2 => by
      refine sumN_congr fun t _ => ?_
      rw [LY_congr fun q hq => ?_]
      have sp : ∀ x ∈ FA s, x ≤ (FA s).getD k 0 ∨ (FA s).getD (k + 1) 0 ≤ x := fun x hx => by
        rcases up_split U.l hx (show k < (FA s).length by omega) with c | c
        · exact .inl c
        · exact .inr c.2
      exact inC_ring (sp _ (brk_of s q hq).i) (sp _ (brk_of s q hq).o) h1 h2)
  rw [← key]
  have hlast := hb _ (getD_mem (L := FA s) (k := (FA s).length - 1) (by omega))
  obtain ⟨d, hd⟩ : ∃ d : Nat, M + 1 = ((FA s).getD ((FA s).length - 1) 0).toNat + d := ⟨M + 1 - ((FA s).getD ((FA s).length - 1) 0).toNat, by omega⟩
  rw [hd, sumN_add]
  rw [show sumN d (fun i => sumN 24 fun t => φ (LY s ((((FA s).getD ((FA s).length - 1) 0).toNat + i : Nat) : Int) (t : Int)) * (2 * ((((FA s).getD ((FA s).length - 1) 0).toNat + i : Nat) : Int) + 1)) = 0 from sumN_zero fun i _ => sumN_zero fun t _ => by
    rw [LY_far hs (by omega), h0, Int.zero_mul], Int.add_zero]
  refine sumN_congr fun r _ => ?_
  rw [sumN_mul]
  congr 1
  rw [Int.add_mul, Int.mul_add]
  omega
theorem getD_set {f : List Int} {i j : Nat} {x : Int} (hi : i < f.length) : (f.set i x).getD j 0 = if i = j then x else f.getD j 0 := by
  rw [List.getD_eq_getElem?_getD, List.getElem?_set]
  by_cases h : i = j
  · subst h; rw [if_pos rfl, if_pos hi, if_pos rfl]; rfl
  · rw [if_neg h, if_neg h, ← List.getD_eq_getElem?_getD]
theorem addAt_get {f : List Int} {j i : Nat} {a : Int} (hj : j ≤ f.length) (hi : i < f.length) : (addAt f j a).getD i 0 = f.getD i 0 + (if j = i + 1 then 1 else 0) * a := by
  unfold addAt
  by_cases h : 0 < j
  · rw [if_pos h, getD_set (by omega)]
    by_cases h2 : j - 1 = i
    · rw [if_pos h2, if_pos (by omega), h2]; omega
    · rw [if_neg h2, if_neg (by omega)]; omega
  · rw [if_neg h, if_neg (by omega)]; omega
theorem list_getD (f : List Int) : f = (List.range f.length).map fun i => f.getD i 0 := by
  refine List.ext_getElem (by simp) fun i h1 h2 => ?_
  rw [List.getElem_map, List.getElem_range, List.getD_eq_getElem?_getD, List.getElem?_eq_getElem h1]; rfl
theorem fold_addAt {β : Type} (j : β → Nat) (a : β → Int) : ∀ (items : List β) (f : List Int), (∀ c ∈ items, j c ≤ f.length) → items.foldl (fun f c => addAt f (j c) (a c)) f = (List.range f.length).map fun i => f.getD i 0 + (items.map fun c => (if j c = i + 1 then 1 else 0) * a c).sum
  | [], f, _ => by
    conv => lhs; rw [List.foldl_nil, list_getD f]
    exact List.map_congr_left fun i _ => by rw [List.map_nil, List.sum_nil, Int.add_zero]
  | c :: items, f, h => by
    have hc := h c List.mem_cons_self
    rw [List.foldl_cons, fold_addAt j a items _ fun x hx => by rw [addAt_len]; exact h x (List.mem_cons_of_mem _ hx), addAt_len]
    refine List.map_congr_left fun i hi => ?_
    rw [addAt_get hc (List.mem_range.mp hi), List.map_cons, List.sum_cons, Int.add_assoc]
/-- the sum over all small cells -/
def fine (M : Nat) (φ : Nat → Nat → Int) : Int := sumN (M + 1) fun r => sumN 24 fun t => φ r t * (2 * (r : Int) + 1)
theorem fine_congr {M : Nat} {φ ψ : Nat → Nat → Int} (h : ∀ r t, r < M + 1 → t < 24 → φ r t = ψ r t) : fine M φ = fine M ψ := sumN_congr fun r hr => sumN_congr fun t ht => by rw [h r t hr ht]
theorem fine_add {M : Nat} {φ ψ : Nat → Nat → Int} : fine M (fun r t => φ r t + ψ r t) = fine M φ + fine M ψ := by
  unfold fine
  rw [← sumN_plus]
  refine sumN_congr fun r _ => ?_
  rw [← sumN_plus]
  exact sumN_congr fun t _ => Int.add_mul _ _ _
theorem fine_mul {M : Nat} {φ : Nat → Nat → Int} {c : Int} : fine M (fun r t => c * φ r t) = c * fine M φ := by
  unfold fine
  rw [Int.mul_comm c, ← sumN_mul]
  refine sumN_congr fun r _ => ?_
  rw [← sumN_mul]
  exact sumN_congr fun t _ => by rw [Int.mul_assoc, Int.mul_comm]
theorem fine_zero {M : Nat} : fine M (fun _ _ => 0) = 0 := sumN_zero fun r _ => sumN_zero fun t _ => Int.zero_mul _
theorem fine_sumN {M : Nat} {c : Nat → Int} {φ : Nat → Nat → Nat → Int} : ∀ n : Nat, sumN n (fun i => c i * fine M (φ i)) = fine M fun r t => sumN n fun i => c i * φ i r t
  | 0 => fine_zero.symm
  | n + 1 => by
    show sumN n (fun i => c i * fine M (φ i)) + c n * fine M (φ n) = fine M fun r t => sumN n (fun i => c i * φ i r t) + c n * φ n r t
    rw [fine_add, fine_mul, fine_sumN n]
def ind (p : Prop) [Decidable p] : Int := if p then 1 else 0
theorem ind_t {p : Prop} [Decidable p] (h : p) : ind p = 1 := if_pos h
theorem ind_f {p : Prop} [Decidable p] (h : ¬ p) : ind p = 0 := if_neg h
def cntM (M : Nat) (s : List Pc) (i : Nat) : Int := fine M fun r t => ind ((LY s (r : Int) (t : Int)).length = i + 1)
theorem depthM_eq {M : Nat} {s : List Pc} (hs : ∀ q ∈ s, q.Ok (M : Int)) : depthM s = (List.range s.length).map fun i => cntM M s i := by
  unfold depthM
  rw [fold_addAt (fun c => (LYc s c).length) (areaM (FA s) (TU s)) (cellsB s) _ fun c _ => by rw [List.length_replicate]; exact LY_le, List.length_replicate]
  refine List.map_congr_left fun i hi => ?_
  have h := coarse_fine hs (fun l => ind (l.length = i + 1)) (ind_f (by simp))
  rw [show (List.replicate s.length (0 : Int)).getD i 0 = 0 by rw [List.getD_eq_getElem?_getD, List.getElem?_replicate, if_pos (List.mem_range.mp hi)]; rfl, Int.zero_add]
  exact h
theorem pick {c : Nat → Int} {l : Nat} : ∀ n : Nat, sumN n (fun i => c i * ind (l = i + 1)) = if 0 < l ∧ l ≤ n then c (l - 1) else 0
  | 0 => by rw [if_neg (by omega)]; rfl
  | n + 1 => by
    show sumN n _ + c n * ind (l = n + 1) = _
    rw [pick n]
    by_cases h : l = n + 1
    · rw [ind_t h, if_neg (by omega), if_pos (by omega), h, Nat.add_sub_cancel]; omega
    · rw [ind_f h]
      by_cases h2 : 0 < l ∧ l ≤ n
      · rw [if_pos h2, if_pos (by omega)]; omega
      · rw [if_neg h2, if_neg (by omega)]; omega
def covM (M : Nat) (s : List Pc) : Int := fine M fun r t => ind (0 < (LY s (r : Int) (t : Int)).length)
theorem cov_sum {M : Nat} {s : List Pc} (hs : ∀ q ∈ s, q.Ok (M : Int)) : (depthM s).sum = covM M s := by
  rw [depthM_eq hs, range_sum]
  have h : sumN s.length (fun i => cntM M s i) = sumN s.length fun i => 1 * cntM M s i := sumN_congr fun i _ => (Int.one_mul _).symm
  rw [h]
  unfold cntM covM
  rw [fine_sumN]
  refine fine_congr fun r t _ _ => ?_
  rw [pick]
  have := LY_le (s := s) (r := (r : Int)) (t := (t : Int))
  by_cases h : 0 < (LY s (r : Int) (t : Int)).length
  · rw [ind_t h, if_pos ⟨h, this⟩]
  · rw [ind_f h, if_neg (by omega)]
theorem c_covered_area_t {M : Nat} {s : List Pc} (hM : M < 1000) (hs : ∀ q ∈ s, q.Ok (M : Int)) (hl : s.length ≤ 8) : c_covered_area [eS s] = some (.int (covM M s)) := by
  rw [st_covered_area]
  unfold F_covered_area
  walk_at "pv"
  rw [c_depth_areas_t (by omega) (by omega) hs hl]
  walk_at "pv"
  rw [sumD_t, cov_sum hs]
def fineF (s : List Pc) (r t : Nat) : D := eL (LY s (r : Int) (t : Int))
theorem eqN_ints (n : Nat) : ∀ xs ys : List Int, eqL (eqN (n + 1)) (xs.map D.int) (ys.map D.int) = decide (xs = ys)
  | [], [] => rfl
  | [], _ :: _ => rfl
  | _ :: _, [] => rfl
  | x :: xs, y :: ys => by
    show ((x == y) && eqL (eqN (n + 1)) (xs.map D.int) (ys.map D.int)) = _
    rw [eqN_ints n xs ys]
    by_cases h : x = y
    · by_cases h2 : xs = ys
      · simp [h, h2]
      · simp [h, h2]
    · simp [h]
theorem eqD_ti (xs ys : List Int) : eqD (.tup (xs.map D.int)) (.tup (ys.map D.int)) = some (.bl (decide (xs = ys))) := by
  unfold eqD
  rw [if_neg (by exact Bool.false_ne_true), if_pos]
  · rw [← eqN_ints 6]; rfl
  · rw [Bool.and_eq_true]
    exact ⟨List.all_eq_true.mpr fun x hx => by obtain ⟨i, _, rfl⟩ := List.mem_map.mp hx; rfl, List.all_eq_true.mpr fun x hx => by obtain ⟨i, _, rfl⟩ := List.mem_map.mp hx; rfl⟩
theorem neD_ti (xs ys : List Int) : neD (.tup (xs.map D.int)) (.tup (ys.map D.int)) = some (.bl (!decide (xs = ys))) := by
  unfold neD
  rw [if_neg (by exact Bool.false_ne_true), if_pos]
  · rw [← eqN_ints 6]; rfl
  · rw [Bool.and_eq_true]
    exact ⟨List.all_eq_true.mpr fun x hx => by obtain ⟨i, _, rfl⟩ := List.mem_map.mp hx; rfl, List.all_eq_true.mpr fun x hx => by obtain ⟨i, _, rfl⟩ := List.mem_map.mp hx; rfl⟩
def eI (s : List Pc) (c : Nat × Nat) : D := .tup [eC c, fineF s c.1 c.2]
end Pv
set_option Elab.async false
set_option linter.all false
set_option maxRecDepth 100000
set_option maxHeartbeats 4000000
set_option autoImplicit false
namespace Pv
open PySem PySem.Spec PyProof.Rows L2
local macro_rules | `(tactic| walk_at "pv") => `(tactic| simp only [wipe_nil, fB_eq, rowsD_b, brdB_b, lenI_d, seqD_i, wipe_cons, sext_eq, sapp_eq, sput_eq, nxE_nx, farsD_n, turnsD_n, insideD_n, fM_eq, netB_n, seqD_d, sdrop_eq, slT_1, slL_1, slS_1, slT_2, slL_2, slS_2, slT_3, slL_3, slS_3, slT_4, slL_4, slS_4, slT_5, slL_5, slS_5, slT_6, slL_6, slS_6, slT_7, slL_7, slS_7, slT_8, slL_8, slS_8, slT_9, slL_9, slS_9, slT_10, slL_10, slS_10, slT_12, slL_12, slS_12, slT_16, slL_16, slS_16, listD_t, listD_l, sseq_eq, seqR_nx, seqR_rt, seqR_ite, endD_ite, bind_ite, sret_eq, sset_eq, sown_eq, sbind_eq, snx_eq, sif_eq, f1_eq, f2_eq, fN_eq, fcons_eq, fnil_eq, kc_eq, tv_eq, tb_eq, boolD_b, tor_eq, tand_eq, tnot_eq, vand_eq, vor_eq, spar_eq, iseq_eq, seqD_l, seqD_t, ienum_eq, enumD_l, enumD_t, irange1_eq, irange2_eq, fch_eq, chL_t, chL_f, fsl_eq, onone_eq, osome_eq, intO_i, sfor_eq, nm_0, nb_0, nbo_0, nm_s, nb_s, obs, obn, ls0, lsS, bindP1, bindT1, bindT2, bindT3, bindT4, tup0, tup1, tup2, tup3, tup4, lst0, lst1, lst2, lst3, lst4, lst5, lst7, lst8, isiD_i, isiD_ib, isiD_is, isiD_in, isiD_it, isiD_il, isiB_i, isiB_b, isiB_s, isiT_i, isiT_b, isiT_s, isiT_n, isiT_t, isiT_l, setE, addD_i, subD_i, negD_i, absD_i, ltD_i, leD_i, gtD_i, geD_i, eqD_i, neD_i, eqD_b, neD_b, isD_b, isntD_b, ixT0, ixT1, ixT2, ixT3, truD_b, truD_t, truD_l, lenD_t, lenD_l, notD_b, tupleD_l, tupleD_t, endD_ret, endD_rt, reduceIte, if_true, if_false, Bool.false_eq_true, Bool.not_true, Bool.not_false, decide_true, decide_false, Bool.true_eq, ne_eq])
local macro_rules | `(tactic| walk_at "pvs") => `(tactic| simp only [*, wipe_nil, fB_eq, rowsD_b, brdB_b, lenI_d, seqD_i, wipe_cons, sext_eq, sapp_eq, sput_eq, nxE_nx, farsD_n, turnsD_n, insideD_n, fM_eq, netB_n, seqD_d, sdrop_eq, slT_1, slL_1, slS_1, slT_2, slL_2, slS_2, slT_3, slL_3, slS_3, slT_4, slL_4, slS_4, slT_5, slL_5, slS_5, slT_6, slL_6, slS_6, slT_7, slL_7, slS_7, slT_8, slL_8, slS_8, slT_9, slL_9, slS_9, slT_10, slL_10, slS_10, slT_12, slL_12, slS_12, slT_16, slL_16, slS_16, listD_t, listD_l, mulD_r, mulD_l, modD_i, fdivD_i, sseq_eq, seqR_nx, seqR_rt, seqR_ite, endD_ite, bind_ite, sret_eq, sset_eq, sown_eq, sbind_eq, snx_eq, sif_eq, f1_eq, f2_eq, fN_eq, fcons_eq, fnil_eq, kc_eq, tv_eq, tb_eq, boolD_b, tor_eq, tand_eq, tnot_eq, vand_eq, vor_eq, spar_eq, iseq_eq, seqD_l, seqD_t, ienum_eq, enumD_l, enumD_t, irange1_eq, irange2_eq, fch_eq, chL_t, chL_f, fsl_eq, onone_eq, osome_eq, intO_i, sfor_eq, nm_0, nb_0, nbo_0, nm_s, nb_s, obs, obn, ls0, lsS, bindP1, bindT1, bindT2, bindT3, bindT4, tup0, tup1, tup2, tup3, tup4, lst0, lst1, lst2, lst3, lst4, lst5, lst7, lst8, isiD_i, isiD_ib, isiD_is, isiD_in, isiD_it, isiD_il, isiB_i, isiB_b, isiB_s, isiT_i, isiT_b, isiT_s, isiT_n, isiT_t, isiT_l, setE, addD_i, subD_i, negD_i, absD_i, ltD_i, leD_i, gtD_i, geD_i, eqD_i, neD_i, eqD_b, neD_b, isD_b, isntD_b, ixT0, ixT1, ixT2, ixT3, truD_b, truD_t, truD_l, lenD_t, lenD_l, notD_b, tupleD_l, tupleD_t, endD_ret, endD_rt, reduceIte, if_true, if_false, Bool.false_eq_true, Bool.not_true, Bool.not_false, decide_true, decide_false, Bool.true_eq, ne_eq])
local macro_rules | `(tactic| walk_at "pvo") => `(tactic| simp (disch := omega) only [addD_l, addD_t, rng1D_i, rng2D_i, wipe_nil, fB_eq, rowsD_b, brdB_b, lenI_d, seqD_i, wipe_cons, sext_eq, sapp_eq, sput_eq, nxE_nx, farsD_n, turnsD_n, insideD_n, fM_eq, netB_n, seqD_d, sdrop_eq, slT_1, slL_1, slS_1, slT_2, slL_2, slS_2, slT_3, slL_3, slS_3, slT_4, slL_4, slS_4, slT_5, slL_5, slS_5, slT_6, slL_6, slS_6, slT_7, slL_7, slS_7, slT_8, slL_8, slS_8, slT_9, slL_9, slS_9, slT_10, slL_10, slS_10, slT_12, slL_12, slS_12, slT_16, slL_16, slS_16, listD_t, listD_l, mulD_r, mulD_l, modD_i, fdivD_i, sseq_eq, seqR_nx, seqR_rt, seqR_ite, endD_ite, bind_ite, sret_eq, sset_eq, sown_eq, sbind_eq, snx_eq, sif_eq, f1_eq, f2_eq, fN_eq, fcons_eq, fnil_eq, kc_eq, tv_eq, tb_eq, boolD_b, tor_eq, tand_eq, tnot_eq, vand_eq, vor_eq, spar_eq, iseq_eq, seqD_l, seqD_t, ienum_eq, enumD_l, enumD_t, irange1_eq, irange2_eq, fch_eq, chL_t, chL_f, fsl_eq, onone_eq, osome_eq, intO_i, sfor_eq, nm_0, nb_0, nbo_0, nm_s, nb_s, obs, obn, ls0, lsS, bindP1, bindT1, bindT2, bindT3, bindT4, tup0, tup1, tup2, tup3, tup4, lst0, lst1, lst2, lst3, lst4, lst5, lst7, lst8, isiD_i, isiD_ib, isiD_is, isiD_in, isiD_it, isiD_il, isiB_i, isiB_b, isiB_s, isiT_i, isiT_b, isiT_s, isiT_n, isiT_t, isiT_l, setE, addD_i, subD_i, negD_i, absD_i, ltD_i, leD_i, gtD_i, geD_i, eqD_i, neD_i, eqD_b, neD_b, isD_b, isntD_b, ixT0, ixT1, ixT2, ixT3, truD_b, truD_t, truD_l, lenD_t, lenD_l, notD_b, tupleD_l, tupleD_t, endD_ret, endD_rt, reduceIte, if_true, if_false, Bool.false_eq_true, Bool.not_true, Bool.not_false, decide_true, decide_false, Bool.true_eq, ne_eq])
/-! ### a board's rows -/
def eR (rows : List (Int × Pc)) : List (Int × D) := rows.map fun p => (p.1, eQ p.2)
structure RowsOk (rows : List (Int × Pc)) (n : Int) : Prop where
  asc : (rows.map Prod.fst).Pairwise (· < ·)
  lt : ∀ p ∈ rows, p.1 < n
  ok : ∀ p ∈ rows, p.2.Ok 9
  len : rows.length ≤ 5
def shR (rows : List (Int × Pc)) : List Pc := rows.map Prod.snd
theorem keys_R (rows : List (Int × Pc)) : (eR rows).map Prod.fst = rows.map Prod.fst := by
  unfold eR
  rw [List.map_map]; rfl
theorem getK_R : ∀ {rows : List (Int × Pc)}, (rows.map Prod.fst).Pairwise (· < ·) → ∀ p ∈ rows, getK (eR rows) p.1 = some (eQ p.2)
  | [], _, p, h => nomatch h
  | q :: rows, ha, p, h => by
    obtain ⟨h1, h2⟩ := List.pairwise_cons.mp ha
    unfold getK eR
    rw [List.map_cons, List.find?_cons]
    rcases List.mem_cons.mp h with rfl | h
    · rw [decide_eq_true rfl]; rfl
    · have : q.1 < p.1 := h1 _ (List.mem_map.mpr ⟨p, h, rfl⟩)
      rw [decide_eq_false (by omega)]
      exact getK_R h2 p h
theorem getK_no : ∀ {rows : List (Int × Pc)} {i : Int}, (getK (eR rows) i).isSome = decide (i ∈ rows.map Prod.fst)
  | [], i => rfl
  | q :: rows, i => by
    have ih := getK_no (rows := rows) (i := i)
    unfold getK eR at ih ⊢
    rw [List.map_cons, List.find?_cons]
    by_cases c : q.1 = i
    · rw [decide_eq_true c, decide_eq_true (by rw [← c]; exact List.mem_cons_self)]; rfl
    · rw [decide_eq_false c]
      show (Option.map Prod.snd (List.find? (fun p => decide (p.1 = i)) (rows.map fun p => (p.1, eQ p.2)))).isSome = _
      rw [ih]
      refine decide_eq_decide.mpr ⟨fun h => List.mem_cons_of_mem _ h, fun h => ?_⟩
      rcases List.mem_cons.mp h with h | h
      · exact absurd h.symm c
      · exact h
abbrev bd (rows : List (Int × Pc)) (n : Int) : D := .brd (.dci (eR rows)) (.int n)
section
variable {rows : List (Int × Pc)} {n : Int}
theorem sorted_R (R : RowsOk rows n) : sortedI (.dci (eR rows)) = some (.lst ((rows.map Prod.fst).map D.int)) := by
  have h5 := R.len
  show (if ((eR rows).map Prod.fst).length < 64 ∧ ((eR rows).map Prod.fst).Pairwise (· < ·) then some (D.lst (((eR rows).map Prod.fst).map D.int)) else none) = _
  rw [keys_R, if_pos ⟨by rw [List.length_map]; omega, R.asc⟩]
theorem small5 {k : Nat} (h : k ≤ 20) : k < big := Nat.lt_of_le_of_lt h (by decide)
theorem c_numbers_t (R : RowsOk rows n) : c_Board_numbers [bd rows n] = some (.tup ((rows.map Prod.fst).map D.int)) := by
  rw [st_Board_numbers]
  unfold F_Board_numbers
  walk_at "pv"
  rw [sorted_R R]
  walk_at "pv"
theorem rows_lc (R : RowsOk rows n) : ∀ p ∈ rows, ixD (.dci (eR rows)) (.int p.1) = some (eQ p.2) := fun p hp => getK_R R.asc p hp
theorem eS_R : D.tup (rows.map fun p => eQ p.2) = eS (shR rows) := by
  unfold eS shR
  rw [List.map_map]; rfl
theorem c_sheet_t (R : RowsOk rows n) : c_Board_sheet [bd rows n] = some (eS (shR rows)) := by
  have h5 := R.len
  rw [st_Board_sheet]
  unfold F_Board_sheet
  walk_at "pv"
  rw [lcF_all (fun p : Int × Pc => .int p.1) (fun p => eQ p.2) rows (by
    walk_at "pv"
    rw [c_numbers_t R]
    walk_at "pv"
    rw [List.map_map]; rfl) (small5 (by omega)) (fun p hp => ⟨_, bindP1, by
    walk_at "pv"
    rw [rows_lc R p hp]⟩)]
  walk_at "pv"
  rw [eS_R]
theorem shR_ok (R : RowsOk rows n) : ∀ q ∈ shR rows, q.Ok ((9 : Nat) : Int) := fun q hq => by
  obtain ⟨p, hp, rfl⟩ := List.mem_map.mp hq
  exact R.ok p hp
theorem shR_len (R : RowsOk rows n) : (shR rows).length ≤ 5 := by
  unfold shR
  rw [List.length_map]; exact R.len
theorem c_area_t (R : RowsOk rows n) : c_Board_area [bd rows n] = some (.int (covM 9 (shR rows))) := by
  have h5 := shR_len R
  rw [st_Board_area]
  unfold F_Board_area
  walk_at "pv"
  rw [c_sheet_t R]
  walk_at "pv"
  rw [c_covered_area_t (M := 9) (by decide) (shR_ok R) (by omega)]
theorem layersM_in {s : List Pc} {p : Pt} : ∀ k ∈ layersM s p, k < s.length := fun k hk => by
  unfold layersM at hk
  obtain ⟨q, hq, rfl⟩ := List.mem_map.mp hk
  have := (List.mem_filter.mp hq).1
  have z := (List.mem_zipIdx this).2.1
  omega
theorem layersM_len {s : List Pc} {p : Pt} : (layersM s p).length ≤ s.length := by
  unfold layersM
  rw [List.length_map]
  exact Nat.le_trans (List.length_filter_le _ _) (by rw [List.length_zipIdx]; exact Nat.le_refl _)
def numR (rows : List (Int × Pc)) (k : Nat) : D := .int ((rows.map Prod.fst).getD k 0)
theorem ix_num {xs : List D → D} (hx : xs = D.tup ∨ xs = D.lst) {k : Nat} (h : k < rows.length) : ixD (xs ((rows.map Prod.fst).map D.int)) (.int (k : Int)) = some (numR rows k) := by
  have e : ((rows.map Prod.fst).map D.int)[k]? = some (numR rows k) := by
    unfold numR
    rw [List.getElem?_map, List.getD_eq_getElem?_getD, List.getElem?_eq_getElem (by rw [List.length_map]; exact h)]; rfl
  rcases hx with rfl | rfl
  · exact atI_nat e
  · exact atI_nat e
theorem c_layers_at_t (R : RowsOk rows n) {p : Pt} (hp : p.Ok) : c_Board_layers_at [bd rows n, eP p] = some (.tup ((layersM (shR rows) p).map (numR rows))) := by
  have h5 := shR_len R
  have hl := layersM_len (s := shR rows) (p := p)
  rw [st_Board_layers_at]
  unfold F_Board_layers_at
  walk_at "pv"
  rw [c_numbers_t R]
  walk_at "pv"
  rw [lcF_all (fun k : Nat => .int (k : Int)) (numR rows) (layersM (shR rows) p) (by
    walk_at "pv"
    rw [c_sheet_t R]
    walk_at "pv"
    rw [c_layers_t (m := ((9 : Nat) : Int)) (by decide) (shR_ok R) (by omega) hp]
    unfold eL
    walk_at "pv") (small5 (by omega)) (fun k hk => ⟨_, bindP1, by
    walk_at "pv"
    rw [ix_num (.inl rfl) (by have := layersM_in k hk; unfold shR at this; rw [List.length_map] at this; exact this)]⟩)]
  walk_at "pv"
def dueR (s : List Pc) : List Int := depthM s ++ [0, 0]
theorem c_depth_area_t (R : RowsOk rows n) {k : Nat} (hk : k < (dueR (shR rows)).length) : c_Board_depth_area [bd rows n, .int ((k : Int) + 1)] = some (.int ((dueR (shR rows)).getD k 0)) := by
  have h5 := shR_len R
  rw [st_Board_depth_area]
  unfold F_Board_depth_area
  walk_at "pv"
  rw [c_sheet_t R]
  walk_at "pv"
  rw [c_depth_areas_t (m := ((9 : Nat) : Int)) (by decide) (by decide) (shR_ok R) (by omega)]
  walk_at "pv"
  rw [List.length_map]
  unfold dueR at hk ⊢
  rw [List.length_append] at hk
  simp only [List.length_cons, List.length_nil] at hk
  by_cases c : k < (depthM (shR rows)).length
  · rw [decide_eq_false (by omega)]
    walk_at "pv"
    rw [show (k : Int) + 1 - 1 = (k : Int) by omega]
    have e : ((depthM (shR rows)).map D.int)[k]? = some (.int ((depthM (shR rows) ++ [0, 0]).getD k 0)) := by
      rw [List.getElem?_map, List.getD_eq_getElem?_getD, List.getElem?_append_left c, List.getElem?_eq_getElem c]; rfl
    exact congrArg (fun z => z) (atI_nat (xs := (depthM (shR rows)).map D.int) e)
  · rw [decide_eq_true (by omega)]
    walk_at "pv"
    rw [List.getD_eq_getElem?_getD, List.getElem?_append_right (by omega)]
    have : k - (depthM (shR rows)).length = 0 ∨ k - (depthM (shR rows)).length = 1 := by omega
    rcases this with e | e <;> rw [e] <;> rfl
theorem ok8_int (i : Int) : okD 7 (.int i) = true := rfl
theorem ne_ints (xs : List Int) : neD (.tup (xs.map D.int)) (.tup (xs.map D.int)) = some (.bl false) := by
  rw [neD_ti, decide_eq_true rfl]; rfl
theorem eqN_self : ∀ (n : Nat) (d : D), okD n d = true → eqN n d d = true := by
  intro n
  induction n with
  | zero => intro d h; cases h
  | succ n ih =>
    have all : ∀ xs : List D, xs.all (okD n) = true → eqL (eqN n) xs xs = true := by
      intro xs
      induction xs with
      | nil => intro _; rfl
      | cons x xs ihx =>
        intro h
        rw [List.all_cons, Bool.and_eq_true] at h
        show (eqN n x x && eqL (eqN n) xs xs) = true
        rw [ih x h.1, ihx h.2]; rfl
    intro d h
    cases d <;> first | exact absurd (show false = true from h) Bool.false_ne_true | exact all _ h | (show decide (_ = _) = true; exact decide_eq_true rfl) | rfl | (show (_ == _) = true; exact beq_self_eq_true _)
theorem ne_self {xs : List D} (h : okD 8 (.tup xs) = true) : neD (.tup xs) (.tup xs) = some (.bl false) := by
  show (if (okD 8 (.tup xs) && okD 8 (.tup xs)) = true then some (D.bl (!eqN 8 (.tup xs) (.tup xs))) else none) = _
  rw [h, eqN_self 8 _ h]; rfl
theorem eq_selfL {xs : List D} (h : okD 8 (.lst xs) = true) : eqD (.lst xs) (.lst xs) = some (.bl true) := by
  show (if (okD 8 (.lst xs) && okD 8 (.lst xs)) = true then some (D.bl (eqN 8 (.lst xs) (.lst xs))) else none) = _
  rw [h, eqN_self 8 _ h]; rfl
theorem ok_all {xs : List D} (h : ∀ d ∈ xs, okD 7 d = true) : okD 8 (.tup xs) = true := List.all_eq_true.mpr h
theorem ok_allL {xs : List D} (h : ∀ d ∈ xs, okD 7 d = true) : okD 8 (.lst xs) = true := List.all_eq_true.mpr h
theorem c_right_t (R : RowsOk rows n) {p : Pt} (hp : p.Ok) : c__law_right [bd rows n, .dci (eR rows), eP p] = some (.bl true) := by
  have h5 := shR_len R
  have hr := R.len
  have hl := layersM_len (s := shR rows) (p := p)
  have hd : (depthM (shR rows)).length = (shR rows).length := by
    rw [depthM_eq (M := 9) (shR_ok R), List.length_map, List.length_range]
  rw [st__law_right]
  unfold F__law_right
  walk_at "pv"
  rw [sorted_R R]
  walk_at "pv"
  rw [lcF_all (fun p : Int × Pc => .int p.1) (fun p => eQ p.2) rows (by
    walk_at "pv"
    rw [List.map_map]; rfl) (small5 (by omega)) (fun p hp => ⟨_, bindP1, by
    walk_at "pv"
    rw [rows_lc R p hp]⟩)]
  walk_at "pv"
  rw [eS_R, c_numbers_t R]
  walk_at "pv"
  rw [ne_ints]
  walk_at "pv"
  rw [c_sheet_t R]
  walk_at "pv"
  rw [show neD (eS (shR rows)) (eS (shR rows)) = some (.bl false) from ne_self (ok_all fun d hd => by obtain ⟨q, _, rfl⟩ := List.mem_map.mp hd; rfl)]
  walk_at "pv"
  rw [c_area_t R]
  walk_at "pv"
  rw [c_covered_area_t (M := 9) (by decide) (shR_ok R) (by omega)]
  walk_at "pv"
  rw [beq_self_eq_true]
  walk_at "pv"
  rw [c_layers_at_t R hp]
  walk_at "pv"
  rw [lcF_all (fun k : Nat => .int (k : Int)) (numR rows) (layersM (shR rows) p) (by
    walk_at "pv"
    rw [c__law_layers_t (m := ((9 : Nat) : Int)) (by decide) (shR_ok R) (by omega) hp]
    unfold eL
    walk_at "pv") (small5 (by omega)) (fun k hk => ⟨_, bindP1, by
    walk_at "pv"
    rw [ix_num (.inr rfl) (by have := layersM_in k hk; unfold shR at this; rw [List.length_map] at this; exact this)]⟩)]
  walk_at "pv"
  rw [ne_self (ok_all fun d hd => by obtain ⟨k, _, rfl⟩ := List.mem_map.mp hd; rfl)]
  walk_at "pv"
  rw [c_depth_areas_t (m := ((9 : Nat) : Int)) (by decide) (by decide) (shR_ok R) (by omega)]
  walk_at "pv"
  rw [show D.tup [.int 0, .int 0] = .tup ([(0 : Int), 0].map D.int) from rfl, addD_t (by rw [List.length_map, hd]; exact small5 (show (shR rows).length + 2 ≤ 20 by omega)), ← List.map_append]
  walk_at "pv"
  have hdl : (dueR (shR rows)).length = (shR rows).length + 2 := by unfold dueR; rw [List.length_append, hd]; rfl
  rw [lcF_all (fun k : Nat => .int (k : Int)) (fun k => .int ((dueR (shR rows)).getD k 0)) (List.range (dueR (shR rows)).length) (by
    walk_at "pv"
    rw [List.length_map]
    rw [rng1D_i (by have hdl' : (depthM (shR rows) ++ [(0 : Int), 0]).length = (shR rows).length + 2 := hdl; rw [hdl']; omega), rangeL_nat]
    rfl) (by rw [List.length_range]; exact small5 (by omega)) (fun k hk => ⟨_, bindP1, by
    walk_at "pv"
    rw [c_depth_area_t R (List.mem_range.mp hk)]⟩)]
  walk_at "pv"
  rw [show (List.range (dueR (shR rows)).length).map (fun k => D.int ((dueR (shR rows)).getD k 0)) = (dueR (shR rows)).map D.int from ?_]
  · have z := eq_selfL (xs := (dueR (shR rows)).map D.int) (ok_allL fun d hd => by obtain ⟨k, _, rfl⟩ := List.mem_map.mp hd; rfl)
    unfold dueR at z ⊢
    rw [z]
  · refine List.ext_getElem (by rw [List.length_map, List.length_map, List.length_range]) fun i h1 h2 => ?_
    rw [List.length_map] at h2
    rw [List.getElem_map, List.getElem_map, List.getElem_range, List.getD_eq_getElem?_getD, List.getElem?_eq_getElem h2]; rfl
end
end Pv
set_option Elab.async false
set_option linter.all false
set_option maxRecDepth 100000
set_option maxHeartbeats 4000000
set_option autoImplicit false
namespace Pv
open PySem PySem.Spec PyProof.Rows L2
local macro_rules | `(tactic| walk_at "pv") => `(tactic| simp only [wipe_nil, fB_eq, rowsD_b, brdB_b, lenI_d, seqD_i, wipe_cons, sext_eq, sapp_eq, sput_eq, nxE_nx, farsD_n, turnsD_n, insideD_n, fM_eq, netB_n, seqD_d, sdrop_eq, slT_1, slL_1, slS_1, slT_2, slL_2, slS_2, slT_3, slL_3, slS_3, slT_4, slL_4, slS_4, slT_5, slL_5, slS_5, slT_6, slL_6, slS_6, slT_7, slL_7, slS_7, slT_8, slL_8, slS_8, slT_9, slL_9, slS_9, slT_10, slL_10, slS_10, slT_12, slL_12, slS_12, slT_16, slL_16, slS_16, listD_t, listD_l, sseq_eq, seqR_nx, seqR_rt, seqR_ite, endD_ite, bind_ite, sret_eq, sset_eq, sown_eq, sbind_eq, snx_eq, sif_eq, f1_eq, f2_eq, fN_eq, fcons_eq, fnil_eq, kc_eq, tv_eq, tb_eq, boolD_b, tor_eq, tand_eq, tnot_eq, vand_eq, vor_eq, spar_eq, iseq_eq, seqD_l, seqD_t, ienum_eq, enumD_l, enumD_t, irange1_eq, irange2_eq, fch_eq, chL_t, chL_f, fsl_eq, onone_eq, osome_eq, intO_i, sfor_eq, nm_0, nb_0, nbo_0, nm_s, nb_s, obs, obn, ls0, lsS, bindP1, bindT1, bindT2, bindT3, bindT4, tup0, tup1, tup2, tup3, tup4, lst0, lst1, lst2, lst3, lst4, lst5, lst7, lst8, isiD_i, isiD_ib, isiD_is, isiD_in, isiD_it, isiD_il, isiB_i, isiB_b, isiB_s, isiT_i, isiT_b, isiT_s, isiT_n, isiT_t, isiT_l, setE, addD_i, subD_i, negD_i, absD_i, ltD_i, leD_i, gtD_i, geD_i, eqD_i, neD_i, eqD_b, neD_b, isD_b, isntD_b, ixT0, ixT1, ixT2, ixT3, truD_b, truD_t, truD_l, lenD_t, lenD_l, notD_b, tupleD_l, tupleD_t, endD_ret, endD_rt, reduceIte, if_true, if_false, Bool.false_eq_true, Bool.not_true, Bool.not_false, decide_true, decide_false, Bool.true_eq, ne_eq])
local macro_rules | `(tactic| walk_at "pvs") => `(tactic| simp only [*, wipe_nil, fB_eq, rowsD_b, brdB_b, lenI_d, seqD_i, wipe_cons, sext_eq, sapp_eq, sput_eq, nxE_nx, farsD_n, turnsD_n, insideD_n, fM_eq, netB_n, seqD_d, sdrop_eq, slT_1, slL_1, slS_1, slT_2, slL_2, slS_2, slT_3, slL_3, slS_3, slT_4, slL_4, slS_4, slT_5, slL_5, slS_5, slT_6, slL_6, slS_6, slT_7, slL_7, slS_7, slT_8, slL_8, slS_8, slT_9, slL_9, slS_9, slT_10, slL_10, slS_10, slT_12, slL_12, slS_12, slT_16, slL_16, slS_16, listD_t, listD_l, mulD_r, mulD_l, modD_i, fdivD_i, sseq_eq, seqR_nx, seqR_rt, seqR_ite, endD_ite, bind_ite, sret_eq, sset_eq, sown_eq, sbind_eq, snx_eq, sif_eq, f1_eq, f2_eq, fN_eq, fcons_eq, fnil_eq, kc_eq, tv_eq, tb_eq, boolD_b, tor_eq, tand_eq, tnot_eq, vand_eq, vor_eq, spar_eq, iseq_eq, seqD_l, seqD_t, ienum_eq, enumD_l, enumD_t, irange1_eq, irange2_eq, fch_eq, chL_t, chL_f, fsl_eq, onone_eq, osome_eq, intO_i, sfor_eq, nm_0, nb_0, nbo_0, nm_s, nb_s, obs, obn, ls0, lsS, bindP1, bindT1, bindT2, bindT3, bindT4, tup0, tup1, tup2, tup3, tup4, lst0, lst1, lst2, lst3, lst4, lst5, lst7, lst8, isiD_i, isiD_ib, isiD_is, isiD_in, isiD_it, isiD_il, isiB_i, isiB_b, isiB_s, isiT_i, isiT_b, isiT_s, isiT_n, isiT_t, isiT_l, setE, addD_i, subD_i, negD_i, absD_i, ltD_i, leD_i, gtD_i, geD_i, eqD_i, neD_i, eqD_b, neD_b, isD_b, isntD_b, ixT0, ixT1, ixT2, ixT3, truD_b, truD_t, truD_l, lenD_t, lenD_l, notD_b, tupleD_l, tupleD_t, endD_ret, endD_rt, reduceIte, if_true, if_false, Bool.false_eq_true, Bool.not_true, Bool.not_false, decide_true, decide_false, Bool.true_eq, ne_eq])
local macro_rules | `(tactic| walk_at "pvo") => `(tactic| simp (disch := omega) only [addD_l, addD_t, rng1D_i, rng2D_i, wipe_nil, fB_eq, rowsD_b, brdB_b, lenI_d, seqD_i, wipe_cons, sext_eq, sapp_eq, sput_eq, nxE_nx, farsD_n, turnsD_n, insideD_n, fM_eq, netB_n, seqD_d, sdrop_eq, slT_1, slL_1, slS_1, slT_2, slL_2, slS_2, slT_3, slL_3, slS_3, slT_4, slL_4, slS_4, slT_5, slL_5, slS_5, slT_6, slL_6, slS_6, slT_7, slL_7, slS_7, slT_8, slL_8, slS_8, slT_9, slL_9, slS_9, slT_10, slL_10, slS_10, slT_12, slL_12, slS_12, slT_16, slL_16, slS_16, listD_t, listD_l, mulD_r, mulD_l, modD_i, fdivD_i, sseq_eq, seqR_nx, seqR_rt, seqR_ite, endD_ite, bind_ite, sret_eq, sset_eq, sown_eq, sbind_eq, snx_eq, sif_eq, f1_eq, f2_eq, fN_eq, fcons_eq, fnil_eq, kc_eq, tv_eq, tb_eq, boolD_b, tor_eq, tand_eq, tnot_eq, vand_eq, vor_eq, spar_eq, iseq_eq, seqD_l, seqD_t, ienum_eq, enumD_l, enumD_t, irange1_eq, irange2_eq, fch_eq, chL_t, chL_f, fsl_eq, onone_eq, osome_eq, intO_i, sfor_eq, nm_0, nb_0, nbo_0, nm_s, nb_s, obs, obn, ls0, lsS, bindP1, bindT1, bindT2, bindT3, bindT4, tup0, tup1, tup2, tup3, tup4, lst0, lst1, lst2, lst3, lst4, lst5, lst7, lst8, isiD_i, isiD_ib, isiD_is, isiD_in, isiD_it, isiD_il, isiB_i, isiB_b, isiB_s, isiT_i, isiT_b, isiT_s, isiT_n, isiT_t, isiT_l, setE, addD_i, subD_i, negD_i, absD_i, ltD_i, leD_i, gtD_i, geD_i, eqD_i, neD_i, eqD_b, neD_b, isD_b, isntD_b, ixT0, ixT1, ixT2, ixT3, truD_b, truD_t, truD_l, lenD_t, lenD_l, notD_b, tupleD_l, tupleD_t, endD_ret, endD_rt, reduceIte, if_true, if_false, Bool.false_eq_true, Bool.not_true, Bool.not_false, decide_true, decide_false, Bool.true_eq, ne_eq])
/-! ### parts of the law -/
abbrev rho (ns : List Int) (x : Addr) (kds : List (Int × D)) (n : Int) (s4 s5 s6 s7 s8 s9 s10 : Sl) : Env := [.sh (.scr ns), .sh (.adr x), .ow (.dci kds), .sh (.int n), s4, s5, s6, s7, s8, s9, s10]
section
variable {ns : List Int} {x : Addr} {rows : List (Int × Pc)} {n k c i : Int} {s4 s5 s6 s7 s8 s9 s10 : Sl}
theorem lw_T1 : ∃ cnd, L_T1 (rho ns x (eR rows) n s4 (.sh (.int c)) s6 s7 s8 s9 s10) = some cnd ∧ (cnd = true → rows.length < 5) := by
  unfold L_T1 rho
  walk_at "pv"
  rw [modD_i (by decide)]
  walk_at "pv"
  rw [show (eR rows).length = rows.length from List.length_map _]
  by_cases h : 0 < c % 3
  · rw [decide_eq_true h]
    walk_at "pv"
    exact ⟨_, rfl, fun z => by have := of_decide_eq_true z; omega⟩
  · rw [decide_eq_false h]
    walk_at "pv"
    exact ⟨_, rfl, fun z => nomatch z⟩
theorem lw_G2 : L_G2 (rho ns x (eR rows) n s4 (.sh (.int c)) s6 s7 s8 s9 s10) = some (.nx (rho ns x (eR rows) n s4 (.sh (.int c)) (.sh (eQ (pieceM (c / 3) 9))) s7 s8 s9 s10)) := by
  unfold L_G2 rho
  walk_at "pv"
  rw [fdivD_i (by decide) (by decide)]
  walk_at "pv"
  rw [c__law_piece_t (by decide)]
  walk_at "pv"
theorem whole_t : c__law_whole [.int n] = some (.bl true) := by
  rw [st__law_whole]
  unfold F__law_whole
  walk_at "pv"
theorem sputI_i {j : Nat} {ρ : Env} {kds : List (Int × D)} {m : Int} {dv : D} {kk' a : Env → Option D} (h : ρ[j]? = some (.ow (.dci kds))) (hk : kk' ρ = some (.int m)) (ha : a ρ = some dv) (hn : m ∉ kds.map Prod.fst) (hl : kds.length < big) : sputI j kk' a ρ = some (.nx (ρ.set j (.ow (.dci (kds ++ [(m, dv)]))))) := by
  rw [sputI_eq, ha, Option.bind_some, hk, Option.bind_some, h]
  exact if_pos ⟨hn, hl⟩
theorem R_new (R : RowsOk rows n) : n ∉ rows.map Prod.fst := fun h => by
  obtain ⟨p, hp, e⟩ := List.mem_map.mp h
  have := R.lt p hp
  omega
theorem eR_app {q : Pc} : eR (rows ++ [(n, q)]) = eR rows ++ [(n, eQ q)] := by
  unfold eR
  rw [List.map_append]; rfl
theorem lw_G3 (R : RowsOk rows n) {q : Pc} : L_G3 (rho ns x (eR rows) n s4 s5 (.sh (eQ q)) (.sh (.int n)) s8 s9 s10) = some (.nx (rho ns x (eR (rows ++ [(n, q)])) (n + 1) s4 s5 (.sh (eQ q)) (.sh (.int n)) s8 s9 s10)) := by
  have h5 := R.len
  have hnew := R_new R
  unfold L_G3 rho
  walk_at "pv"
  rw [whole_t]
  walk_at "pv"
  rw [beq_self_eq_true]
  walk_at "pv"
  rw [sputI_i (kds := eR rows) (m := n) (dv := eQ q) rfl rfl rfl (by rw [keys_R]; exact hnew) (by rw [show (eR rows).length = rows.length from List.length_map _]; exact small5 (by omega)), ← eR_app]
  walk_at "pv"
theorem R_put (R : RowsOk rows n) (hn : 0 ≤ n) (h5 : rows.length < 5) {q : Pc} (hq : q.Ok 9) : RowsOk (rows ++ [(n, q)]) (n + 1) := by
  refine ⟨?_, fun p hp => ?_, fun p hp => ?_, ?_⟩
  · rw [List.map_append]
    refine List.pairwise_append.mpr ⟨R.asc, List.pairwise_singleton _ _, fun a ha b hb => ?_⟩
    rw [List.mem_singleton.mp hb]
    obtain ⟨p, hp, rfl⟩ := List.mem_map.mp ha
    exact R.lt p hp
  · rcases List.mem_append.mp hp with hp | hp
    · have := R.lt p hp; omega
    · rw [List.mem_singleton.mp hp]
      show n < n + 1
      omega
  · rcases List.mem_append.mp hp with hp | hp
    · exact R.ok p hp
    · rw [List.mem_singleton.mp hp]; exact hq
  · rw [List.length_append, List.length_singleton]; omega
theorem R_del (R : RowsOk rows n) (i : Int) : RowsOk (rows.filter fun p => decide (p.1 ≠ i)) n := by
  refine ⟨?_, fun p hp => R.lt p (List.mem_filter.mp hp).1, fun p hp => R.ok p (List.mem_filter.mp hp).1, Nat.le_trans (List.length_filter_le _ _) R.len⟩
  exact R.asc.sublist (List.filter_sublist.map _)
theorem eR_del (i : Int) : (eR rows).filter (fun p => decide (p.1 ≠ i)) = eR (rows.filter fun p => decide (p.1 ≠ i)) := by
  unfold eR
  rw [List.filter_map]; rfl
noncomputable def L_G4a : Env → Option Res := sset 8 (f2 subD (fN c__law_mix (fcons (nm 5) (fcons (kc (.int 9887)) (fcons (f2 addD (nb 3) (kc (.int 2))) fnil)))) (f1 intD (f2 eqD (f2 modD (nb 5) (kc (.int 5))) (kc (.int 0)))))
noncomputable def L_G4b : Env → Option Res := sset 9 (f2 ixD (fN lstD (fcons (kc .non) (fcons (kc (.str "no piece")) fnil))) (f1 intD (f2 ninD (nb 8) (nb 2))))
theorem lw_G4a (hn : 0 ≤ n) : ∃ i : Int, L_G4a (rho ns x (eR rows) n s4 (.sh (.int c)) s6 s7 s8 s9 s10) = some (.nx (rho ns x (eR rows) n s4 (.sh (.int c)) s6 s7 (.sh (.int i)) s9 s10)) := by
  unfold L_G4a rho
  walk_at "pv"
  rw [c__law_mix_t (by decide) (by omega)]
  walk_at "pv"
  rw [modD_i (by decide)]
  walk_at "pv"
  cases c % 5 == 0 with
  | true =>
    rw [show intD (.bl true) = some (.int 1) from rfl]
    walk_at "pv"
    exact ⟨_, rfl⟩
  | false =>
    rw [show intD (.bl false) = some (.int 0) from rfl]
    walk_at "pv"
    exact ⟨_, rfl⟩
def dueD (rows : List (Int × Pc)) (i : Int) : D := if i ∈ rows.map Prod.fst then .non else .str "no piece"
theorem lw_G4b : L_G4b (rho ns x (eR rows) n s4 s5 s6 s7 (.sh (.int i)) s9 s10) = some (.nx (rho ns x (eR rows) n s4 s5 s6 s7 (.sh (.int i)) (.sh (dueD rows i)) s10)) := by
  unfold L_G4b rho dueD
  walk_at "pv"
  rw [ninD_i, getK_no]
  by_cases h : i ∈ rows.map Prod.fst
  · rw [decide_eq_true h, if_pos h]
    walk_at "pv"
    rw [show intD (.bl false) = some (.int 0) from rfl]
    walk_at "pv"
    rw [show ixD (.lst [.non, .str "no piece"]) (.int 0) = some .non from rfl]
    walk_at "pv"
  · rw [decide_eq_false h, if_neg h]
    walk_at "pv"
    rw [show intD (.bl true) = some (.int 1) from rfl]
    walk_at "pv"
    rw [show ixD (.lst [.non, .str "no piece"]) (.int 1) = some (.str "no piece") from rfl]
    walk_at "pv"
theorem pairs_R : ∀ rows : List (Int × Pc), asPairs (rows.map fun p => .tup [.int p.1, eQ p.2]) = some (eR rows)
  | [] => rfl
  | p :: rows => by
    show (asPairs (rows.map fun p => .tup [.int p.1, eQ p.2])).map (fun l => (p.1, eQ p.2) :: l) = _
    rw [pairs_R rows]; rfl
theorem dictI_R (R : RowsOk rows n) : dictI (.lst (rows.map fun p => .tup [.int p.1, eQ p.2])) = some (.dci (eR rows)) := by
  show ((asPairs (rows.map fun p => .tup [.int p.1, eQ p.2])).bind fun kds => if (kds.map Prod.fst).Pairwise (· < ·) then some (D.dci kds) else none) = _
  rw [pairs_R, Option.bind_some, keys_R, if_pos R.asc]
theorem lw_G5 (R : RowsOk rows n) : L_G5 (rho ns x (eR rows) n s4 s5 s6 s7 (.sh (.int i)) s9 s10) = some (.nx (rho ns x (eR (rows.filter fun p => decide (p.1 ≠ i))) n s4 s5 s6 s7 (.sh (.int i)) s9 s10)) := by
  have h5 := R.len
  unfold L_G5 rho
  rw [sfrz_ow rfl]
  walk_at "pv"
  rw [lcF_map (fun p : Int × Pc => .int p.1) (fun p => decide (p.1 ≠ i)) (fun p => .tup [.int p.1, eQ p.2]) rows (by
    walk_at "pv"
    unfold eR
    rw [List.map_map]; rfl) (small5 (by omega)) (fun p hp => ⟨_, bindP1, by
    walk_at "pv"
    by_cases h : p.1 = i
    · rw [decide_eq_false (fun z => z h), h, beq_self_eq_true]; rfl
    · rw [decide_eq_true h, beq_eq_false_iff_ne.mpr h]; rfl, fun _ => by
    walk_at "pv"
    rw [rows_lc R p hp]
    walk_at "pv"⟩)]
  walk_at "pv"
  rw [dictI_R (R_del R i)]
  walk_at "pv"
theorem lw_E6 : L_E6 ((rho ns x (eR rows) n (.sh (.int k)) (.sh (.int c)) s6 s7 s8 s9 s10).set 2 .no) = some (eP (pointM (c + k) 9)) := by
  unfold L_E6 rho
  walk_at "pv"
  rw [c__law_point_t (by decide) (by decide)]
noncomputable def L_R : Env → Option D := fN c__law_right (fcons (kc (.brd (.dci []) (.int 0))) (fcons (kc (.dci [])) (fcons (fN tupD (fcons (fN tupD (fcons (kc (.int 1)) (fcons (kc (.int 1)) fnil))) (fcons (fN tupD (fcons (kc (.int 0)) (fcons (kc (.int 1)) fnil))) fnil))) fnil)))
noncomputable def L_I : Env → Option (List D) := ienum (fsl (nb 0) onone (osome (kc (.int 16))))
theorem lw_I {ρ : Env} : L_I (.sh (.scr ns) :: ρ) = some (numL ((ns.take 16).map D.int) 0) := by
  unfold L_I
  walk_at "pv"
theorem lw_R {ρ : Env} : L_R ρ = some (.bl true) := by
  have e : c__law_right [.brd (.dci []) (.int 0), .dci [], .tup [.tup [.int 1, .int 1], .tup [.int 0, .int 1]]] = some (.bl true) :=
    c_right_t (rows := []) (n := 0) ⟨.nil, fun p h => (nomatch h), fun p h => (nomatch h), Nat.zero_le _⟩ (p := ⟨1, 1, 0, 1⟩) ⟨by decide, by decide, by decide, by decide⟩
  unfold L_R
  walk_at "pv"
  rw [e]
end
end Pv
set_option Elab.async false
set_option linter.all false
set_option maxRecDepth 100000
set_option maxHeartbeats 4000000
set_option autoImplicit false
namespace Pv
open PySem PySem.Spec PyProof.Rows L2
/-! ### the law -/
abbrev s_law : Stmt := topS 34
abbrev N_law : List Str := ["_law_script", "_law_board", "_law_rows", "_law_count", "_law_k", "_law_cell_here", "_law_piece_here", "_law_told", "_law_number", "_law_due", "_law_one"]
theorem sc_law : FnScope N_law ["_law_script"] (defScope s_law) := ⟨rfl, rfl, rfl, by decide +kernel, rfl, by decide +kernel, by decide +kernel⟩
abbrev stAt (l : List Stmt) (i : Nat) : Stmt := l.getD i (.Pass ⟨0, 0, 0, 0⟩)
abbrev forB : Stmt → List Stmt
  | .For _ _ b _ _ => b
  | _ => []
abbrev forT : Stmt → Expr
  | .For t _ _ _ _ => t
  | _ => .Name "" ⟨0, 0, 0, 0⟩
abbrev forI : Stmt → Expr
  | .For _ t _ _ _ => t
  | _ => .Name "" ⟨0, 0, 0, 0⟩
abbrev ifC : Stmt → Expr
  | .If t _ _ _ => t
  | _ => .Name "" ⟨0, 0, 0, 0⟩
abbrev ifT : Stmt → List Stmt
  | .If _ b _ _ => b
  | _ => []
abbrev ifE : Stmt → List Stmt
  | .If _ _ b _ => b
  | _ => []
abbrev notE : Expr → Expr
  | .UnaryOp _ e _ => e
  | _ => .Name "" ⟨0, 0, 0, 0⟩
abbrev argE : Expr → Nat → Expr
  | .Call _ es _ _, i => es.getD i (.Name "" ⟨0, 0, 0, 0⟩)
  | _, _ => .Name "" ⟨0, 0, 0, 0⟩
abbrev retE : Stmt → Expr
  | .Return (some e) _ => e
  | _ => .Name "" ⟨0, 0, 0, 0⟩
abbrev boolE : Expr → Nat → Expr
  | .BoolOp _ es _, i => es.getD i (.Name "" ⟨0, 0, 0, 0⟩)
  | _, _ => .Name "" ⟨0, 0, 0, 0⟩
abbrev bL : List Stmt := defBody s_law
abbrev lp : List Stmt := forB (stAt bL 3)
abbrev yes : List Stmt := ifT (stAt lp 0)
abbrev no' : List Stmt := ifE (stAt lp 0)
/-- the law's own promise -/
def spLw (K : PySem.W.Frag) : Sp := fun vs H Q _ => ∃ (a : Addr) (ns : List Int), vs = [.ref a] ∧ SqL K H a (ns.map V.int) ∧ ns.length ≤ 63 ∧ ∀ H', Q (.bl true) H'
section
variable {Γ : Gam}
abbrev G11 (Γ : Gam) : Gam := Γ.at 11
abbrev scL : Scope := defScope s_law
theorem g_1 : DS (G11 Γ) N_law scL (stAt bL 1) (sown 2 (kc (.dci []))) := s_own (i := 2) sc_law.nd rfl rfl d_dnewI
theorem g_2 : DS (G11 Γ) N_law scL (stAt bL 2) (sset 3 (kc (.int 0))) := s_set (i := 3) sc_law.nd rfl rfl d_int
theorem g_I (B : Bl Γ) : DI (G11 Γ) N_law scL (forT (stAt bL 3)) (forI (stAt bL 3)) L_I := by
  delta L_I
  exact (i_enum rfl B.enumerate (d_sl (d_nb (i := 0) rfl rfl (by decide) (by decide)) o_none (o_some d_int)))
theorem g_G : DG (G11 Γ) N_law scL true (forT (stAt bL 3)) (.tup [4, 5]) := (g_tup (gs_cons (i := 4) sc_law.nd rfl rfl (gs_cons (i := 5) sc_law.nd rfl rfl gs_nil)))
theorem g_T1 (B : Bl Γ) : DT (G11 Γ) N_law scL (ifC (stAt lp 0)) L_T1 := by
  delta L_T1
  exact (DW.t (w_and (t_c (d_gt (d_mod (d_nb (i := 5) rfl rfl (by decide) (by decide)) d_int) d_int)) (w_and1 (t_c (d_lt (d_lenI rfl B.len (d_nb (i := 2) rfl rfl (by decide) (by decide))) d_int)))))
theorem g_G2 (h__law_piece : HasD (G11 Γ) "_law_piece" c__law_piece) : DS (G11 Γ) N_law scL (stAt yes 0) L_G2 := by
  delta L_G2
  exact (s_set (i := 6) sc_law.nd rfl rfl (d_call h__law_piece rfl (by decide) (a_cons (d_fdiv (d_nb (i := 5) rfl rfl (by decide) (by decide)) d_int) (a_cons d_int a_nil))))
theorem g_G3 (h__law_whole : HasD (G11 Γ) "_law_whole" c__law_whole) : DSs (G11 Γ) N_law scL (yes.drop 2) L_G3 := by
  delta L_G3
  exact (ss_cons (s_if (DW.t (w_or (t_not (t_v (d_call h__law_whole rfl (by decide) (a_cons (d_nm (i := 7) rfl rfl (by decide) (by decide)) a_nil)))) (w_or1 (t_c (d_ne (d_nb (i := 7) rfl rfl (by decide) (by decide)) (d_nb (i := 3) rfl rfl (by decide) (by decide)))))))
  (ss_one (s_ret d_bl))
  ss_nil)
  (ss_cons (s_putI (i := 2) rfl rfl (by decide) (by decide) (d_nm (i := 3) rfl rfl (by decide) (by decide)) (d_nm (i := 6) rfl rfl (by decide) (by decide)))
  (ss_one (s_set (i := 3) sc_law.nd rfl rfl (d_add (d_nb (i := 3) rfl rfl (by decide) (by decide)) d_int)))))
theorem g_G4a (B : Bl Γ) (h__law_mix : HasD (G11 Γ) "_law_mix" c__law_mix) : DS (G11 Γ) N_law scL (stAt no' 0) L_G4a := by
  delta L_G4a
  exact (s_set (i := 8) sc_law.nd rfl rfl (d_sub (d_call h__law_mix rfl (by decide) (a_cons (d_nm (i := 5) rfl rfl (by decide) (by decide)) (a_cons d_int (a_cons (d_add (d_nb (i := 3) rfl rfl (by decide) (by decide)) d_int) a_nil)))) (d_int1 rfl B.int (DC.toE (d_eq (d_mod (d_nb (i := 5) rfl rfl (by decide) (by decide)) d_int) d_int)))))
theorem g_G4b (B : Bl Γ) : DS (G11 Γ) N_law scL (stAt no' 1) L_G4b := by
  delta L_G4b
  exact (s_set (i := 9) sc_law.nd rfl rfl (d_ix (d_lst (a_cons d_non (a_cons d_str a_nil))) (d_int1 rfl B.int (DC.toE (d_nin (d_nb (i := 8) rfl rfl (by decide) (by decide)) (d_nb (i := 2) rfl rfl (by decide) (by decide)))))))
theorem g_G5 (B : Bl Γ) : DSs (G11 Γ) N_law scL (no'.drop 3) L_G5 := by
  delta L_G5
  exact (ss_frz 2 (ss_one (s_own (i := 2) sc_law.nd rfl rfl (d_dictI rfl B.dict (DL.f (d_lc (own := [("_law_one", 10)]) sc_law.nd (by decide +kernel) (i_seq (d_nm (i := 2) rfl rfl (by decide) (by decide))) (g_one (i := 10) sc_law.nd rfl rfl) (by decide) (ts_one (t_c (d_ne (d_nb (i := 10) rfl rfl (by decide) (by decide)) (d_nb (i := 8) rfl rfl (by decide) (by decide))))) (d_tup (a_cons (d_nm (i := 10) rfl rfl (by decide) (by decide)) (a_cons (d_ix (d_nb (i := 2) rfl rfl (by decide) (by decide)) (d_nb (i := 10) rfl rfl (by decide) (by decide))) a_nil)))))))))
theorem g_E6 (h__law_point : HasD (G11 Γ) "_law_point" c__law_point) : DV (G11 Γ) N_law scL .e (argE (notE (ifC (stAt lp 1))) 2) L_E6 := by
  delta L_E6
  exact (d_call h__law_point rfl (by decide) (a_cons (d_add (d_nb (i := 5) rfl rfl (by decide) (by decide)) (d_nb (i := 4) rfl rfl (by decide) (by decide))) (a_cons d_int a_nil)))
theorem g_R (h__law_right : HasD (G11 Γ) "_law_right" c__law_right) (hB : HasBM (G11 Γ)) : DV (G11 Γ) N_law scL .e (boolE (retE (stAt bL 4)) 1) L_R := by
  delta L_R
  exact (d_call h__law_right rfl (by decide) (a_cons (d_makeB hB rfl) (a_cons (DV.toE d_dnewI) (a_cons (d_tup (a_cons (d_tup (a_cons d_int (a_cons d_int a_nil))) (a_cons (d_tup (a_cons d_int (a_cons d_int a_nil))) a_nil))) a_nil))))
def NoO (s : Sl) : Prop := ∀ e, s ≠ .ow e
theorem noO_sh {d : D} : NoO (.sh d) := fun _ z => nomatch z
theorem noO_no : NoO .no := fun _ z => nomatch z
theorem nums_of : ∀ {xs : List Int} {i j : Nat} {dv : D}, (numL (xs.map D.int) i)[j]? = some dv → ∃ k c : Int, dv = .tup [.int k, .int c]
  | [], i, j, dv, h => by cases j <;> cases h
  | x :: xs, i, 0, dv, h => by cases h; exact ⟨_, _, rfl⟩
  | x :: xs, i, j + 1, dv, h => nums_of (xs := xs) (i := i + 1) (j := j) h
theorem ow_two {ns : List Int} {x : Addr} {kds : List (Int × D)} {n : Int} {s4 s5 s6 s7 s8 s9 s10 : Sl} (h4 : NoO s4) (h5 : NoO s5) (h6 : NoO s6) (h7 : NoO s7) (h8 : NoO s8) (h9 : NoO s9) (h10 : NoO s10) : ∀ i e, (rho ns x kds n s4 s5 s6 s7 s8 s9 s10)[i]? = some (.ow e) → i = 2
  | 0, e, h => by cases h
  | 1, e, h => by cases h
  | 2, e, h => rfl
  | 3, e, h => by cases h
  | 4, e, h => absurd (Option.some.inj h) (h4 e)
  | 5, e, h => absurd (Option.some.inj h) (h5 e)
  | 6, e, h => absurd (Option.some.inj h) (h6 e)
  | 7, e, h => absurd (Option.some.inj h) (h7 e)
  | 8, e, h => absurd (Option.some.inj h) (h8 e)
  | 9, e, h => absurd (Option.some.inj h) (h9 e)
  | 10, e, h => absurd (Option.some.inj h) (h10 e)
  | i + 11, e, h => by cases h
/-- what holds between the turns -/
def PL (ns : List Int) (x : Addr) (ρ : Env) (kds : List (Int × D)) (n : Int) : Prop := ∃ (rows : List (Int × Pc)) (s4 s5 s6 s7 s8 s9 s10 : Sl), kds = eR rows ∧ RowsOk rows n ∧ 0 ≤ n ∧ (NoO s4 ∧ NoO s5 ∧ NoO s6 ∧ NoO s7 ∧ NoO s8 ∧ NoO s9 ∧ NoO s10) ∧ ρ = rho ns x (eR rows) n s4 s5 s6 s7 s8 s9 s10
section
variable {x : Addr} {ns : List Int} {n k c : Int} {rows : List (Int × Pc)} {G H : Hp} {σ : L2.St} {s6 s7 s8 s9 s10 : Sl}
/-- if not _law_right(..): return False -/
theorem end_ok {tE6 : TE} {De : Ends} (mE6 : SemV (G11 Γ) .e tE6 L_E6) {kds : List (Int × D)} (hk : kds = eR rows) (Rw : RowsOk rows n) (h6 : NoO s6) (h7 : NoO s7) (h8 : NoO s8) (h9 : NoO s9) (h10 : NoO s10) (b : BS (G11 Γ) x G H (rho ns x (eR rows) n (.sh (.int k)) (.sh (.int c)) s6 s7 s8 s9 s10) σ kds n)
    (q : ∀ H', BS (G11 Γ) x G H' (rho ns x (eR rows) n (.sh (.int k)) (.sh (.int c)) s6 s7 s8 s9 s10) σ kds n → De.nx σ H') :
    tIfS (tNot (tB (tLockE (tLockE (tCall (spD Γ.K Γ.C c__law_right) [] E0 (tCons (tVar 1) (tCons (tVar 2) (tCons tE6 tNil)))))))) (tRet (tC (.bl false))) tNext De σ H := by
  subst hk
  refine right_ok (Γ := G11 Γ) (f := c__law_right) (rows := eR rows) (c := true) (Q := fun v H1 => ∃ c, v = .bl c ∧ (if (!c) = true then tRet (tC (.bl false)) De σ H1 else tNext De σ H1)) b rfl rfl (ow_two noO_sh noO_sh h6 h7 h8 h9 h10) mE6 lw_E6 (c_right_t Rw pointM_ok) fun H' b' => ⟨true, rfl, if_f rfl ?_⟩
  exact q H' b'
end
theorem seq_run {t u : TS} {De : Ends} {σ : L2.St} {H : Hp} (h : t { De with nx := u De } σ H) : tSeq t u De σ H := h
theorem step_ok {tT1 : TT} {tG2 tG3 tG4a tG4b tG5 : TS} {tE6 : TE} (mT1 : SemT (G11 Γ) tT1 L_T1) (mG2 : SemS (G11 Γ) tG2 L_G2) (mG3 : SemS (G11 Γ) tG3 L_G3) (mG4a : SemS (G11 Γ) tG4a L_G4a) (mG4b : SemS (G11 Γ) tG4b L_G4b) (mG5 : SemS (G11 Γ) tG5 L_G5) (mE6 : SemV (G11 Γ) .e tE6 L_E6)
    {x : Addr} {ns : List Int} {ρ : Env} {kds : List (Int × D)} {n : Int} {dv : D} (hd : ∃ k c : Int, dv = .tup [.int k, .int c]) (hp : PL ns x ρ kds n) : ∃ ρ1, bindP (.tup [4, 5]) dv ρ = some ρ1 ∧ ∀ (G H : Hp) (σ : L2.St) (De : Ends), BS (G11 Γ) x G H ρ1 σ kds n →
      (∀ ρ' kds' n' G' H' σ', SL G G' → BS (G11 Γ) x G' H' ρ' σ' kds' n' → PL ns x ρ' kds' n' → De.nx σ' H') →
      (tSeq (tIfS tT1 (tSeq tG2 (tSeq (tAsg (tMeth (boardA Γ.K) "put_in" (spPut Γ.K) [] E0 (tVar 1) (tCons (tVar 6) tNil)) (gName 7)) tG3))
        (tSeq tG4a (tSeq tG4b (tSeq (tIfS (tTest (tOp (rNeA Γ.K) (tCall (spTaken Γ.K) [] E0 (tCons (tVar 1) (tCons (tVar 8) tNil))) (tVar 9))) (tRet (tC (.bl false))) tNext) tG5))))
      (tIfS (tNot (tB (tLockE (tLockE (tCall (spD Γ.K Γ.C c__law_right) [] E0 (tCons (tVar 1) (tCons (tVar 2) (tCons tE6 tNil)))))))) (tRet (tC (.bl false))) tNext)) De σ H := by
  obtain ⟨k, c, rfl⟩ := hd
  obtain ⟨rows, s4, s5, s6, s7, s8, s9, s10, rfl, Rw, hn, ⟨h4, h5, h6, h7, h8, h9, h10⟩, rfl⟩ := hp
  refine ⟨rho ns x (eR rows) n (.sh (.int k)) (.sh (.int c)) s6 s7 s8 s9 s10, bindT2, fun G H σ De b q => ?_⟩
  obtain ⟨cnd, eT, hT⟩ := lw_T1 (ns := ns) (x := x) (rows := rows) (n := n) (c := c) (s4 := .sh (.int k)) (s6 := s6) (s7 := s7) (s8 := s8) (s9 := s9) (s10 := s10)
  refine seq_run ?_
  refine BS.test b mT1 eT fun G1 H1 sl1 b1 => ?_
  cases cnd with
  | true =>
    refine if_t rfl ?_
    have hl5 := hT rfl
    refine seq_run ?_
    refine BS.run b1 mG2 lw_G2 (fun ρ' G2 H2 σ2 er sl2 b2 => ?_) (fun dv G2 H2 v er _ => nomatch er)
    cases er
    show tSeq (tAsg (tMeth (boardA Γ.K) "put_in" (spPut Γ.K) [] E0 (tVar 1) (tCons (tVar 6) tNil)) (gName 7)) tG3 _ σ2 H2
    refine seq_run ?_
    refine put_ok (Γ := G11 Γ) (dv := eQ (pieceM (c / 3) 9)) b2 rfl rfl (by rw [keys_R]; exact R_new Rw) (by rw [show (eR rows).length = rows.length from List.length_map _]; exact small5 (by omega)) fun H3 b3 => ?_
    show tG3 _ _ H3
    refine BS.run b3 mG3 (lw_G3 Rw) (fun ρ' G4 H4 σ4 er sl4 b4 => ?_) (fun dv G2 H2 v er _ => nomatch er)
    cases er
    have R4 := R_put Rw hn hl5 (q := pieceM (c / 3) 9) (pieceM_ok (by decide))
    rw [← eR_app] at b4
    refine end_ok mE6 rfl R4 noO_sh noO_sh h8 h9 h10 b4 fun H5 b5 => ?_
    exact q _ _ _ _ _ _ ((sl1.trans sl2).trans sl4) b5 ⟨_, _, _, _, _, _, _, _, rfl, R4, by omega, ⟨noO_sh, noO_sh, noO_sh, noO_sh, h8, h9, h10⟩, rfl⟩
  | false =>
    refine if_f rfl ?_
    obtain ⟨i, e4a⟩ := lw_G4a (ns := ns) (x := x) (rows := rows) (n := n) (c := c) (s4 := .sh (.int k)) (s6 := s6) (s7 := s7) (s8 := s8) (s9 := s9) (s10 := s10) hn
    refine seq_run ?_
    refine BS.run b1 mG4a e4a (fun ρ' G2 H2 σ2 er sl2 b2 => ?_) (fun dv G2 H2 v er _ => nomatch er)
    cases er
    show tSeq tG4b _ _ σ2 H2
    refine seq_run ?_
    refine BS.run b2 mG4b lw_G4b (fun ρ' G3 H3 σ3 er sl3 b3 => ?_) (fun dv G2 H2 v er _ => nomatch er)
    cases er
    -- behind take_out
    have fin : ∀ (G4 H4 : Hp), SL G3 G4 → BS (G11 Γ) x G4 H4 (rho ns x (eR rows) n (.sh (.int k)) (.sh (.int c)) s6 s7 (.sh (.int i)) (.sh (dueD rows i)) s10) σ3 (eR (rows.filter fun p => decide (p.1 ≠ i))) n →
        tG5 { De with nx := (tIfS (tNot (tB (tLockE (tLockE (tCall (spD Γ.K Γ.C c__law_right) [] E0 (tCons (tVar 1) (tCons (tVar 2) (tCons tE6 tNil)))))))) (tRet (tC (.bl false))) tNext) De } σ3 H4 := fun G4 H4 sl4 b4 => by
      refine BS.run b4 mG5 (lw_G5 Rw) (fun ρ' G5 H5 σ5 er sl5 b5 => ?_) (fun dv G2 H2 v er _ => nomatch er)
      cases er
      have R5 := R_del Rw i
      refine end_ok mE6 rfl R5 h6 h7 noO_sh noO_sh h10 b5 fun H6 b6 => ?_
      exact q _ _ _ _ _ _ ((((sl1.trans sl2).trans sl3).trans sl4).trans sl5) b6 ⟨_, _, _, _, _, _, _, _, rfl, R5, hn, ⟨noO_sh, noO_sh, h6, h7, noO_sh, noO_sh, h10⟩, rfl⟩
    show tSeq _ _ _ σ3 H3
    refine seq_run ?_
    show tCall (spTaken Γ.K) [] E0 (tCons (tVar 1) (tCons (tVar 8) tNil)) σ3 H3 (fun v H' => tVar 9 σ3 H' fun w H2 => rNeA Γ.K v w H2 fun z H3 => ∃ k', z = .bl k' ∧ (if k' = true then tRet (tC (.bl false)) _ σ3 H3 else tNext _ σ3 H3))
    refine taken_ok (Γ := G11 Γ) b3 rfl rfl (fun hi H4 b4 => ?_) (fun hi => ?_)
    · obtain ⟨w, sw, rw'⟩ := b4.slot (i := 9) rfl
      refine ⟨w, sw, ?_⟩
      have due : dueD rows i = .non := if_pos (by rw [← keys_R]; exact hi)
      rw [due] at rw'
      refine o_ne (Γ := G11 Γ) G3 H4 .non w .non .non (.bl false) b4.s (.inl .non) (.inl rw') rfl _ fun G5 H5 u g5 o5 => ?_
      cases o5
      refine ⟨false, rfl, if_f rfl ?_⟩
      refine fin G5 H5 g5.g (BS.grow ?_ g5)
      rw [eR_del] at b4
      exact b4
    · obtain ⟨w, sw, rw'⟩ := b3.slot (i := 9) rfl
      refine ⟨w, sw, ?_⟩
      have hi' : i ∉ rows.map Prod.fst := by rw [← keys_R]; exact hi
      have due : dueD rows i = .str "no piece" := if_neg hi'
      rw [due] at rw'
      refine o_ne (Γ := G11 Γ) G3 H3 (.str "no piece") w (.str "no piece") (.str "no piece") (.bl false) b3.s (.inl (.str _)) (.inl rw') rfl _ fun G5 H5 u g5 o5 => ?_
      cases o5
      refine ⟨false, rfl, if_f rfl ?_⟩
      refine fin G5 H5 g5.g (BS.grow ?_ g5)
      have same : (rows.filter fun p => decide (p.1 ≠ i)) = rows := List.filter_eq_self.mpr fun p hp => decide_eq_true fun z => hi' (by rw [← z]; exact List.mem_map.mpr ⟨p, hp, rfl⟩)
      rw [same]
      exact b3
theorem okU {A : Around} {k : Nat} (hr : Room k A) : A.units + 1 < cLine := hu_of hr
theorem fnD_law8 (B : Bl Γ) (R : BrdC Γ) {f : Addr} {fd : FuncData} (Fn : Fun Γ.K "law" "law" s_law f fd) (h__law_piece : HasD (G11 Γ) "_law_piece" c__law_piece) (h__law_whole : HasD (G11 Γ) "_law_whole" c__law_whole) (h__law_mix : HasD (G11 Γ) "_law_mix" c__law_mix) (h__law_point : HasD (G11 Γ) "_law_point" c__law_point)
    (h__law_right : HasD (G11 Γ) "_law_right" c__law_right) (hB : HasBM (G11 Γ)) (hP : ∃ (a : Addr) (fd : FuncData), Meth Γ.K (boardA Γ.K) "put_in" a ∧ Binds Γ.K fd ["self", "piece"] [] ∧ FnOk Γ.P Γ.w Γ.K Γ.mg Γ.base CX0 1 a fd ["self", "piece"] (spPut Γ.K))
    (hT : ∃ (a : Addr) (fd : FuncData), Γ.mg "_law_taken" = some (.ref a) ∧ PySem.W.keepIn Γ.K (.ref a) = true ∧ Binds Γ.K fd ["_law_board", "_law_number"] [] ∧ FnOk Γ.P Γ.w Γ.K Γ.mg Γ.base CX0 2 a fd ["_law_board", "_law_number"] (spTaken Γ.K)) :
    FnOk Γ.P Γ.w Γ.K Γ.mg Γ.base CX0 12 f fd ["_law_script"] (spLw Γ.K) := by
  obtain ⟨fP, fdP, mP, bP, GP⟩ := hP
  obtain ⟨fT, fdT, gT, kT, bT, GT⟩ := hT
  obtain ⟨jr, fr, fdr, psr, hjr, hmr, hkr, hbr, hFr⟩ := h__law_right.ex
  obtain ⟨jb, fb, fdb, hjb, hmb, hkb, hbb, hFb⟩ := hB.ex
  obtain ⟨t1, p1, m1⟩ := (g_1 (Γ := Γ)).ex
  obtain ⟨t2, p2, m2⟩ := (g_2 (Γ := Γ)).ex
  obtain ⟨tI, pI, mI⟩ := (g_I B).ex
  obtain ⟨tG, pG, mG⟩ := (g_G (Γ := Γ)).ex
  obtain ⟨tT1, pT1, mT1⟩ := (g_T1 B).ex
  obtain ⟨tG2, pG2, mG2⟩ := (g_G2 h__law_piece).ex
  obtain ⟨tG3, pG3, mG3⟩ := (g_G3 h__law_whole).ex
  obtain ⟨tG4a, pG4a, mG4a⟩ := (g_G4a B h__law_mix).ex
  obtain ⟨tG4b, pG4b, mG4b⟩ := (g_G4b B).ex
  obtain ⟨tG5, pG5, mG5⟩ := (g_G5 B).ex
  obtain ⟨tE6, pE6, mE6⟩ := (g_E6 h__law_point).ex
  obtain ⟨tR, pR, mR⟩ := (g_R h__law_right hB).ex
  refine Fn.ok sc_law (fun vs H Q E h => by obtain ⟨a, ns, rfl, _⟩ := h; rfl) (fun cdv A outer s H vs Q E hr h => ?_)
  have g : Good (G11 Γ) N_law scL (cxOf CX0 Γ.P Γ.w Γ.K Γ.mg Γ.base N_law "law" (defScope s_law) f cdv A outer s H E).nox := ⟨rfl, rfl, rfl, rfl, rfl, rfl, rfl, hr, rfl, rfl⟩
  have fnX : ∀ y, (cxOf CX0 Γ.P Γ.w Γ.K Γ.mg Γ.base N_law "law" (defScope s_law) f cdv A outer s H E).nox.fn y = true := fun _ => rfl
  have hr2 : Room 2 (A.deeper (envOfC "law" (defScope s_law) s.heap.objs.size f cdv)) := hr.mono (by decide)
  have bodyP : PSs (cxOf CX0 Γ.P Γ.w Γ.K Γ.mg Γ.base N_law "law" (defScope s_law) f cdv A outer s H E).nox lp
      (tSeq (tIfS tT1 (tSeq tG2 (tSeq (tAsg (tMeth (boardA Γ.K) "put_in" (spPut Γ.K) [] E0 (tVar 1) (tCons (tVar 6) tNil)) (gName 7)) tG3))
        (tSeq tG4a (tSeq tG4b (tSeq (tIfS (tTest (tOp (rNeA Γ.K) (tCall (spTaken Γ.K) [] E0 (tCons (tVar 1) (tCons (tVar 8) tNil))) (tVar 9))) (tRet (tC (.bl false))) tNext) tG5))))
      (tIfS (tNot (tB (tLockE (tLockE (tCall (spD Γ.K Γ.C c__law_right) [] E0 (tCons (tVar 1) (tCons (tVar 2) (tCons tE6 tNil)))))))) (tRet (tC (.bl false))) tNext)) := by
    refine pss_cons (ps_if (pT1 _ g) (pss_cons (pG2 _ g fnX) (pss_cons (ps_set (i := 7) sc_law.nd rfl (Or.inl rfl) (by exact pe_meth (CX := CX0) (k := 1) (f := fP) (fd := fdP) (ps := ["self", "piece"]) (ds := []) (dvs := []) (pv 1) R.cl mP GP (hr.mono (by decide)) bP .nil pass0 (by exact pa_cons (pv 6) pa_nil))) (pG3 _ g fnX)))
      (pss_cons (pG4a _ g fnX) (pss_cons (pG4b _ g fnX) (pss_cons (ps_if (pt_cmpR (op_ne.or (op_neD g.room.units)) (by exact pe_call (CX := CX0) (k := 2) (f := fT) (fd := fdT) (ps := ["_law_board", "_law_number"]) (ds := []) (dvs := []) GT hr2 rfl gT kT bT .nil pass0 (by exact pa_cons (pv 1) (pa_cons (pv 8) pa_nil))) (pv 9) (nobehind _ (by decide) (by decide))) (pss_one (ps_ret pe_bl)) pss_nil) (pG5 _ g fnX)))))
      (pss_one (ps_if (pt_not (pt_val (pe_lock (pe_lock (by exact pe_call (CX := CX0) (k := jr) (f := fr) (fd := fdr) (ps := psr) (ds := []) (dvs := []) hFr (hr.mono hjr) rfl hmr hkr hbr .nil pass0 (by exact pa_cons (pv 1) (pa_cons (pv 2) (pa_cons (pE6 _ g) pa_nil)))))))) (pss_one (ps_ret pe_bl)) pss_nil))
  have allP : PSs (cxOf CX0 Γ.P Γ.w Γ.K Γ.mg Γ.base N_law "law" (defScope s_law) f cdv A outer s H E).nox bL
      (tSeq (tAsg (tMake (boardA Γ.K) (spBI Γ.K) [] E0 tNil) (gName 1)) (tSeq t1 (tSeq t2 (tSeq (tFor tI tG (tSeq (tIfS tT1 (tSeq tG2 (tSeq (tAsg (tMeth (boardA Γ.K) "put_in" (spPut Γ.K) [] E0 (tVar 1) (tCons (tVar 6) tNil)) (gName 7)) tG3))
        (tSeq tG4a (tSeq tG4b (tSeq (tIfS (tTest (tOp (rNeA Γ.K) (tCall (spTaken Γ.K) [] E0 (tCons (tVar 1) (tCons (tVar 8) tNil))) (tVar 9))) (tRet (tC (.bl false))) tNext) tG5))))
      (tIfS (tNot (tB (tLockE (tLockE (tCall (spD Γ.K Γ.C c__law_right) [] E0 (tCons (tVar 1) (tCons (tVar 2) (tCons tE6 tNil)))))))) (tRet (tC (.bl false))) tNext)))
      (tRet (tAndV (tOp (rEqA Γ.K) (tCall (spTaken Γ.K) [] E0 (tCons (tVar 1) (tCons (tVar 3) tNil))) (tC (.str "no piece"))) tR)))))) := by
    refine pss_cons (ps_set (i := 1) sc_law.nd rfl (Or.inl rfl) (by exact pe_make0 (CX := CX0) (k := jb) (f := fb) (fd := fdb) (ps := ["self"]) (ds := []) (dvs := []) hkb hFb (hr.mono hjb) rfl hmb hbb .nil pass0))
      (pss_cons (p1 _ g fnX) (pss_cons (p2 _ g fnX) (pss_cons (ps_for PassesOwn.never rfl (pI _ g) (pG _ g fun _ => fnX) bodyP (fun _ => rfl))
      (pss_one (ps_ret (pe_and (pe_cmpR (op_eq.or (op_eqD g.room.units)) (by exact pe_call (CX := CX0) (k := 2) (f := fT) (fd := fdT) (ps := ["_law_board", "_law_number"]) (ds := []) (dvs := []) GT hr2 rfl gT kT bT .nil pass0 (by exact pa_cons (pv 1) (pa_cons (pv 3) pa_nil))) pe_str (nobehind _ (by decide) (by decide))) (pe_one (pR _ g))))))))
  refine ⟨_, allP, ?_⟩
  obtain ⟨a, ns, rfl, hS, hl, q⟩ := h
  refine seq_run ?_
  refine makeB_run fun x dx p hx hdx hp hxp => ?_
  have b0 : BS (G11 Γ) x H (newB Γ.K H x dx p) [.sh (.scr ns), .sh (.adr x), .no, .no, .no, .no, .no, .no, .no, .no, .no] ((L2.start N_law [.ref a]).set 1 (some (.ref x))) [] 0 :=
    ⟨fun y o e => .inl (newB_k hx hdx hp e), dx, p, [], newB_x, newB_p hxp, rfl, .nil, hx, hp, EnvOk.setSh (Γ := G11 Γ) (ρ := startE N_law [.scr ns]) (i := 1) (env_start (Γ := G11 Γ) N_law (.cons (.scr hS) .nil)) (.adr x)⟩
  show tSeq t1 _ _ ((L2.start N_law [.ref a]).set 1 (some (.ref x))) (newB Γ.K H x dx p)
  refine seq_run ?_
  refine BS.run b0 m1 rfl (fun ρ' G1 H1 σ1 er sl1 b1 => ?_) (fun dv G2 H2 v er _ => nomatch er)
  cases er
  show tSeq t2 _ _ σ1 H1
  refine seq_run ?_
  refine BS.run b1 m2 rfl (fun ρ' G2 H2 σ2 er sl2 b2 => ?_) (fun dv G2 H2 v er _ => nomatch er)
  cases er
  show tSeq (tFor tI tG _) _ _ σ2 H2
  refine seq_run ?_
  refine for_BS mI mG (fun i ρ kds n => PL ns x ρ kds n) b2 lw_I ⟨[], _, _, _, _, _, _, _, rfl, ⟨.nil, fun p h => (nomatch h), fun p h => (nomatch h), Nat.zero_le _⟩, Int.le_refl _, ⟨noO_no, noO_no, noO_no, noO_no, noO_no, noO_no, noO_no⟩, rfl⟩ (fun i dv ρ kds n hd hp => ?_) (fun ρ kds n G3 H3 σ3 hp b3 => ?_)
  · obtain ⟨ρ1, e, run⟩ := step_ok mT1 mG2 mG3 mG4a mG4b mG5 mE6 (nums_of hd) hp
    exact ⟨ρ1, e, fun G H σ De' b hn _ => run G H σ De' b hn⟩
  · obtain ⟨rows, s4, s5, s6, s7, s8, s9, s10, rfl, Rw, hn, _, rfl⟩ := hp
    show tCall (spTaken Γ.K) [] E0 (tCons (tVar 1) (tCons (tVar 3) tNil)) σ3 H3 (fun v H' => (tC (.str "no piece")) σ3 H' fun w H2 => rEqA Γ.K v w H2 fun z H4 => ∃ c, z = .bl c ∧ if c = true then tR σ3 H4 Q else Q (.bl false) H4)
    refine taken_ok (Γ := G11 Γ) b3 rfl rfl (fun hi => absurd (by rw [keys_R] at hi; exact hi) (R_new Rw)) (fun hi => ?_)
    refine o_eq (Γ := G11 Γ) G3 H3 (.str "no piece") (.str "no piece") (.str "no piece") (.str "no piece") (.bl true) b3.s (.inl (.str _)) (.inl (.str _)) rfl _ fun G5 H5 u g5 o5 => ?_
    cases o5
    refine ⟨true, rfl, if_t rfl ?_⟩
    refine BS.val (b3.grow g5) mR lw_R fun G6 H6 v g6 b6 o6 => ?_
    cases o6
    exact q H6
end
end Pv
set_option Elab.async false
set_option linter.all false
set_option maxRecDepth 100000
set_option maxHeartbeats 0
set_option autoImplicit false
namespace Pv
open PySem PySem.Spec PyProof.Rows L2
/-! ### the head: facts by names, one kernel run -/
theorem fun_of {K : PySem.W.Frag} {x qual : Str} {st : Stmt} {f : Addr} {fd : FuncData} (F : FunD K x qual (defArgs st) (defBody st) (defScope st) [] [] f fd) : Fun K x qual st f fd := by
  obtain ⟨⟨oc, od, dV, kV, doc, pm, an, cdv, ct, osl, e, l, c, d, k⟩, kp⟩ := F
  rcases d with ⟨_, e2⟩ | ⟨z, _⟩
  · subst e2
    exact ⟨⟨oc, od, kV, doc, pm, an, cdv, ct, osl, e, l, c⟩, kp⟩
  · exact absurd rfl z
def dd_common : He.DefD := ⟨("common", none), "common", "common", defArgs s_common, defBody s_common, defScope s_common, [], []⟩
def dd_is_more : He.DefD := ⟨("is_more", none), "is_more", "is_more", defArgs s_is_more, defBody s_is_more, defScope s_is_more, [], []⟩
def dd_Net_width : He.DefD := ⟨("Net", some "width"), "width", "Net.width", defArgs s_Net_width, defBody s_Net_width, defScope s_Net_width, [], []⟩
def dd_Net_bounded : He.DefD := ⟨("Net", some "bounded"), "bounded", "Net.bounded", defArgs s_Net_bounded, defBody s_Net_bounded, defScope s_Net_bounded, [], []⟩
def dd_half : He.DefD := ⟨("half", none), "half", "half", defArgs s_half, defBody s_half, defScope s_half, [], []⟩
def dd_Board_numbers : He.DefD := ⟨("Board", some "numbers"), "numbers", "Board.numbers", defArgs s_Board_numbers, defBody s_Board_numbers, defScope s_Board_numbers, [], []⟩
def dd__law_mix : He.DefD := ⟨("_law_mix", none), "_law_mix", "_law_mix", defArgs s__law_mix, defBody s__law_mix, defScope s__law_mix, [], []⟩
def dd__law_fraction : He.DefD := ⟨("_law_fraction", none), "_law_fraction", "_law_fraction", defArgs s__law_fraction, defBody s__law_fraction, defScope s__law_fraction, [], []⟩
def dd__law_has : He.DefD := ⟨("_law_has", none), "_law_has", "_law_has", defArgs s__law_has, defBody s__law_has, defScope s__law_has, [], []⟩
def dd__law_whole : He.DefD := ⟨("_law_whole", none), "_law_whole", "_law_whole", defArgs s__law_whole, defBody s__law_whole, defScope s__law_whole, [], []⟩
def dd_fraction : He.DefD := ⟨("fraction", none), "fraction", "fraction", defArgs s_fraction, defBody s_fraction, defScope s_fraction, [], []⟩
def dd_Net_point_in : He.DefD := ⟨("Net", some "point_in"), "point_in", "Net.point_in", defArgs s_Net_point_in, defBody s_Net_point_in, defScope s_Net_point_in, [], []⟩
def dd_Net_area : He.DefD := ⟨("Net", some "area"), "area", "Net.area", defArgs s_Net_area, defBody s_Net_area, defScope s_Net_area, [], []⟩
def dd_Board_sheet : He.DefD := ⟨("Board", some "sheet"), "sheet", "Board.sheet", defArgs s_Board_sheet, defBody s_Board_sheet, defScope s_Board_sheet, [], []⟩
def dd__law_piece : He.DefD := ⟨("_law_piece", none), "_law_piece", "_law_piece", defArgs s__law_piece, defBody s__law_piece, defScope s__law_piece, [], []⟩
def dd__law_point : He.DefD := ⟨("_law_point", none), "_law_point", "_law_point", defArgs s__law_point, defBody s__law_point, defScope s__law_point, [], []⟩
def dd__law_layers : He.DefD := ⟨("_law_layers", none), "_law_layers", "_law_layers", defArgs s__law_layers, defBody s__law_layers, defScope s__law_layers, [], []⟩
def dd_less : He.DefD := ⟨("less", none), "less", "less", defArgs s_less, defBody s_less, defScope s_less, [], []⟩
def dd_on_round : He.DefD := ⟨("on_round", none), "on_round", "on_round", defArgs s_on_round, defBody s_on_round, defScope s_on_round, [], []⟩
def dd_has : He.DefD := ⟨("has", none), "has", "has", defArgs s_has, defBody s_has, defScope s_has, [], []⟩
def dd_layers : He.DefD := ⟨("layers", none), "layers", "layers", defArgs s_layers, defBody s_layers, defScope s_layers, [], []⟩
def dd_Net___init__ : He.DefD := ⟨("Net", some "__init__"), "__init__", "Net.__init__", defArgs s_Net___init__, defBody s_Net___init__, defScope s_Net___init__, [], []⟩
def dd_Board_layers_at : He.DefD := ⟨("Board", some "layers_at"), "layers_at", "Board.layers_at", defArgs s_Board_layers_at, defBody s_Board_layers_at, defScope s_Board_layers_at, [], []⟩
def dd_depth_areas : He.DefD := ⟨("depth_areas", none), "depth_areas", "depth_areas", defArgs s_depth_areas, defBody s_depth_areas, defScope s_depth_areas, [], []⟩
def dd_covered_area : He.DefD := ⟨("covered_area", none), "covered_area", "covered_area", defArgs s_covered_area, defBody s_covered_area, defScope s_covered_area, [], []⟩
def dd_Board_depth_area : He.DefD := ⟨("Board", some "depth_area"), "depth_area", "Board.depth_area", defArgs s_Board_depth_area, defBody s_Board_depth_area, defScope s_Board_depth_area, [], []⟩
def dd_Board_area : He.DefD := ⟨("Board", some "area"), "area", "Board.area", defArgs s_Board_area, defBody s_Board_area, defScope s_Board_area, [], []⟩
def dd__law_right : He.DefD := ⟨("_law_right", none), "_law_right", "_law_right", defArgs s__law_right, defBody s__law_right, defScope s__law_right, [], []⟩
def dd_Board___init__ : He.DefD := ⟨("Board", some "__init__"), "__init__", "Board.__init__", defArgs s_Board___init__, defBody s_Board___init__, defScope s_Board___init__, [], []⟩
def dd_Board_put_in : He.DefD := ⟨("Board", some "put_in"), "put_in", "Board.put_in", defArgs s_Board_put_in, defBody s_Board_put_in, defScope s_Board_put_in, [], []⟩
def dd_Board_take_out : He.DefD := ⟨("Board", some "take_out"), "take_out", "Board.take_out", defArgs s_Board_take_out, defBody s_Board_take_out, defScope s_Board_take_out, [], []⟩
def dd__law_taken : He.DefD := ⟨("_law_taken", none), "_law_taken", "_law_taken", defArgs s__law_taken, defBody s__law_taken, defScope s__law_taken, [], []⟩
def dd_law : He.DefD := ⟨("law", none), "law", "law", defArgs s_law, defBody s_law, defScope s_law, [], []⟩
def fnL : List He.DefD := ([dd_common, dd_is_more, dd_Net_width, dd_Net_bounded, dd_half, dd_Board_numbers, dd__law_mix, dd__law_fraction, dd__law_has, dd__law_whole, dd_fraction, dd_Net_point_in, dd_Net_area, dd_Board_sheet, dd__law_piece, dd__law_point, dd__law_layers, dd_less, dd_on_round, dd_has, dd_layers, dd_Net___init__, dd_Board_layers_at, dd_depth_areas, dd_covered_area, dd_Board_depth_area, dd_Board_area, dd__law_right, dd_Board___init__, dd_Board_put_in] : List He.DefD) ++ ([dd_Board_take_out, dd__law_taken, dd_law] : List He.DefD)
def faL : List He.Fa := ([.glo "common", .glo "is_more", .glo "half", .glo "_law_mix", .glo "_law_fraction", .glo "_law_has", .glo "_law_whole", .glo "fraction", .glo "_law_piece", .glo "_law_point", .glo "_law_layers", .glo "less", .glo "on_round", .glo "has", .glo "layers", .glo "depth_areas", .glo "covered_area", .glo "_law_right", .glo "_law_taken", .glo "law", .glo "Net", .cls "Net", .noat "Net" "fars", .noat "Net" "turns", .noat "Net" "inside", .mkr "Net", .meth "Net" "width", .meth "Net" "bounded", .meth "Net" "point_in", .meth "Net" "area"] : List He.Fa) ++ ([.glo "Board", .cls "Board", .noat "Board" "rows", .noat "Board" "next_number", .mkr "Board", .meth "Board" "numbers", .meth "Board" "sheet", .meth "Board" "layers_at", .meth "Board" "depth_area", .meth "Board" "area", .meth "Board" "put_in", .meth "Board" "take_out", .glo "RingError", .glo "NoText", .glo "NoPiece", .exc "NoPiece", .exm "NoPiece" "RingError" true, .free "ValueError", .free "abs", .free "bool", .free "dict", .free "enumerate", .free "int", .free "isinstance", .free "len", .free "list", .free "range", .free "set", .free "sorted", .free "sum"] : List He.Fa) ++ ([.free "tuple"] : List He.Fa)
/-- what isinstance asks of the error's class -/
def xtra (K : PySem.W.Frag) : Bool :=
  He.eqO (PySem.W.findIn K (.ref (He.ga K "NoPiece")) "__getattribute__") (some (some (.builtin "BaseException.__getattribute__"))) &&
  (He.eqO (PySem.W.findIn K (.ref (He.ga K "NoPiece")) "__getattr__") (some none) &&
  (PySem.W.hasDictIn K (He.ga K "NoPiece") &&
  (He.eqO (PySem.W.findIn K (.ref (He.ga K "NoPiece")) "__class__") (some (some (.builtin "object.__class__"))) &&
  (He.eqO (PySem.W.specialIn K (.builtin "object.__class__") "__get__") (some (some (.builtin "getset_descriptor.__get__"))) &&
  (decide (PySem.W.takesIn K (.builtin "object.__class__") = some true) &&
  (decide (PySem.W.mroIn K (He.ga K "NoPiece") (.type "object") = some true) &&
  (decide (PySem.W.kitOne K (.ref (He.ga K "NoPiece")) (.ref (He.ga K "NoPiece")) = some true) &&
  (decide (PySem.W.kitOne K (.ref (He.ga K "NoPiece")) (.ref (He.ga K "NoText")) = some false) &&
  decide (PySem.W.kitOne K (.ref (He.ga K "NoPiece")) (.type "ValueError") = some true)))))))))
abbrev AlX : Type := He.AlD × Bool
def obsX (K : PySem.W.Frag) : AlX := (He.obsD faL fnL K, xtra K)
def valX : AlX := (He.valD fnL, true)
def SaysX (K : PySem.W.Frag) : Prop := obsX K = valX
def obsXG (g : Addr → Option Obj) : AlX := obsX (He.frG g (He.asD g 4))
def hkL : PySem.W.Hook where
  α := AlX
  obs := fun s => obsXG s.heap.get?
  val := fun _ => valX
  says := fun _ h => ∃ K : PySem.W.Frag, K.In h ∧ SaysX K
  of := fun _ _ e => ⟨_, He.frG_in, e⟩
  keeps := fun _ _ _ ⟨K, hK, c⟩ k => ⟨K, PySem.W.Frag.In.keeps hK k, c⟩
theorem obsXG_eq {g : Addr → Option Obj} {s : Shared} (h : ∀ a, g a = s.heap.get? a) : obsXG g = hkL.obs s := by
  have e : g = s.heap.get? := funext h
  rw [e] <;> rfl
theorem SaysX.d {K : PySem.W.Frag} (c : SaysX K) : He.SaysD faL fnL K := congrArg (fun z : AlX => z.1) c
theorem SaysX.x {K : PySem.W.Frag} (c : SaysX K) : xtra K = true := congrArg (fun z : AlX => z.2) c
abbrev Rw : PySem.W.OpenRow := PySem.W.OpenLaw.row PySem.Challenge.rw_ringlayers_k08_whole_boards
def obL (s : PySem.W.SharedT) : AlX := obsXG (HandSHeadRun.getT s)
theorem obL_eq (s : PySem.W.SharedT) : obL s = hkL.obs s.abs := obsXG_eq (HandSHeadRun.getT_eq s)
def looseL : List Str := ["_wall", "common", "fraction", "less", "is_more", "on_round", "has", "layers", "Net", "half", "depth_areas", "covered_area", "RingError", "NoText", "NoPiece", "Board", "_law_cell", "_law_mix", "_law_piece", "_law_sheet", "_law_fraction", "_law_point", "_law_has", "_law_layers", "_law_whole", "_law_taken", "_law_right"]
theorem runL (w : World) : HandSHeadRun.RunEq Rw (PySem.W.view Rw.prog [34]) hkL obL 3000 looseL w := by
  intro os
  kernel_rfl
theorem factsL {P : Program} {w : World} {K : PySem.W.Frag} {h : Heap} {mg : Str → Option Value} {f : Addr} (X : K.In h) (Gn : h.Ns mainGlobals mg) (hfa : mg ("law" : Str) = some (.ref f)) (cX : SaysX K) :
    ∃ fd : FuncData, (∀ (s : Shared) (v : Value), BindsTo s fd ⟨[v], []⟩ [("_law_script", v)]) ∧ ∀ base : Heap, K.In base → base.Ns mainGlobals mg → FnOk P w K mg base CX0 12 f fd ["_law_script"] (spLw K) := by
  have c := cX.d
  obtain ⟨fd_common, FD_common⟩ := c.def_ 0 (d := dd_common) rfl
  have Fn_common : Fun K "common" "common" s_common (He.fAd K dd_common.at_) fd_common := fun_of FD_common
  obtain ⟨fd_is_more, FD_is_more⟩ := c.def_ 1 (d := dd_is_more) rfl
  have Fn_is_more : Fun K "is_more" "is_more" s_is_more (He.fAd K dd_is_more.at_) fd_is_more := fun_of FD_is_more
  obtain ⟨fd_Net_width, FD_Net_width⟩ := c.def_ 2 (d := dd_Net_width) rfl
  have Fn_Net_width : Fun K "width" "Net.width" s_Net_width (He.fAd K dd_Net_width.at_) fd_Net_width := fun_of FD_Net_width
  obtain ⟨fd_Net_bounded, FD_Net_bounded⟩ := c.def_ 3 (d := dd_Net_bounded) rfl
  have Fn_Net_bounded : Fun K "bounded" "Net.bounded" s_Net_bounded (He.fAd K dd_Net_bounded.at_) fd_Net_bounded := fun_of FD_Net_bounded
  obtain ⟨fd_half, FD_half⟩ := c.def_ 4 (d := dd_half) rfl
  have Fn_half : Fun K "half" "half" s_half (He.fAd K dd_half.at_) fd_half := fun_of FD_half
  obtain ⟨fd_Board_numbers, FD_Board_numbers⟩ := c.def_ 5 (d := dd_Board_numbers) rfl
  have Fn_Board_numbers : Fun K "numbers" "Board.numbers" s_Board_numbers (He.fAd K dd_Board_numbers.at_) fd_Board_numbers := fun_of FD_Board_numbers
  obtain ⟨fd__law_mix, FD__law_mix⟩ := c.def_ 6 (d := dd__law_mix) rfl
  have Fn__law_mix : Fun K "_law_mix" "_law_mix" s__law_mix (He.fAd K dd__law_mix.at_) fd__law_mix := fun_of FD__law_mix
  obtain ⟨fd__law_fraction, FD__law_fraction⟩ := c.def_ 7 (d := dd__law_fraction) rfl
  have Fn__law_fraction : Fun K "_law_fraction" "_law_fraction" s__law_fraction (He.fAd K dd__law_fraction.at_) fd__law_fraction := fun_of FD__law_fraction
  obtain ⟨fd__law_has, FD__law_has⟩ := c.def_ 8 (d := dd__law_has) rfl
  have Fn__law_has : Fun K "_law_has" "_law_has" s__law_has (He.fAd K dd__law_has.at_) fd__law_has := fun_of FD__law_has
  obtain ⟨fd__law_whole, FD__law_whole⟩ := c.def_ 9 (d := dd__law_whole) rfl
  have Fn__law_whole : Fun K "_law_whole" "_law_whole" s__law_whole (He.fAd K dd__law_whole.at_) fd__law_whole := fun_of FD__law_whole
  obtain ⟨fd_fraction, FD_fraction⟩ := c.def_ 10 (d := dd_fraction) rfl
  have Fn_fraction : Fun K "fraction" "fraction" s_fraction (He.fAd K dd_fraction.at_) fd_fraction := fun_of FD_fraction
  obtain ⟨fd_Net_point_in, FD_Net_point_in⟩ := c.def_ 11 (d := dd_Net_point_in) rfl
  have Fn_Net_point_in : Fun K "point_in" "Net.point_in" s_Net_point_in (He.fAd K dd_Net_point_in.at_) fd_Net_point_in := fun_of FD_Net_point_in
  obtain ⟨fd_Net_area, FD_Net_area⟩ := c.def_ 12 (d := dd_Net_area) rfl
  have Fn_Net_area : Fun K "area" "Net.area" s_Net_area (He.fAd K dd_Net_area.at_) fd_Net_area := fun_of FD_Net_area
  obtain ⟨fd_Board_sheet, FD_Board_sheet⟩ := c.def_ 13 (d := dd_Board_sheet) rfl
  have Fn_Board_sheet : Fun K "sheet" "Board.sheet" s_Board_sheet (He.fAd K dd_Board_sheet.at_) fd_Board_sheet := fun_of FD_Board_sheet
  obtain ⟨fd__law_piece, FD__law_piece⟩ := c.def_ 14 (d := dd__law_piece) rfl
  have Fn__law_piece : Fun K "_law_piece" "_law_piece" s__law_piece (He.fAd K dd__law_piece.at_) fd__law_piece := fun_of FD__law_piece
  obtain ⟨fd__law_point, FD__law_point⟩ := c.def_ 15 (d := dd__law_point) rfl
  have Fn__law_point : Fun K "_law_point" "_law_point" s__law_point (He.fAd K dd__law_point.at_) fd__law_point := fun_of FD__law_point
  obtain ⟨fd__law_layers, FD__law_layers⟩ := c.def_ 16 (d := dd__law_layers) rfl
  have Fn__law_layers : Fun K "_law_layers" "_law_layers" s__law_layers (He.fAd K dd__law_layers.at_) fd__law_layers := fun_of FD__law_layers
  obtain ⟨fd_less, FD_less⟩ := c.def_ 17 (d := dd_less) rfl
  have Fn_less : Fun K "less" "less" s_less (He.fAd K dd_less.at_) fd_less := fun_of FD_less
  obtain ⟨fd_on_round, FD_on_round⟩ := c.def_ 18 (d := dd_on_round) rfl
  have Fn_on_round : Fun K "on_round" "on_round" s_on_round (He.fAd K dd_on_round.at_) fd_on_round := fun_of FD_on_round
  obtain ⟨fd_has, FD_has⟩ := c.def_ 19 (d := dd_has) rfl
  have Fn_has : Fun K "has" "has" s_has (He.fAd K dd_has.at_) fd_has := fun_of FD_has
  obtain ⟨fd_layers, FD_layers⟩ := c.def_ 20 (d := dd_layers) rfl
  have Fn_layers : Fun K "layers" "layers" s_layers (He.fAd K dd_layers.at_) fd_layers := fun_of FD_layers
  obtain ⟨fd_Net___init__, FD_Net___init__⟩ := c.def_ 21 (d := dd_Net___init__) rfl
  have Fn_Net___init__ : Fun K "__init__" "Net.__init__" s_Net___init__ (He.fAd K dd_Net___init__.at_) fd_Net___init__ := fun_of FD_Net___init__
  obtain ⟨fd_Board_layers_at, FD_Board_layers_at⟩ := c.def_ 22 (d := dd_Board_layers_at) rfl
  have Fn_Board_layers_at : Fun K "layers_at" "Board.layers_at" s_Board_layers_at (He.fAd K dd_Board_layers_at.at_) fd_Board_layers_at := fun_of FD_Board_layers_at
  obtain ⟨fd_depth_areas, FD_depth_areas⟩ := c.def_ 23 (d := dd_depth_areas) rfl
  have Fn_depth_areas : Fun K "depth_areas" "depth_areas" s_depth_areas (He.fAd K dd_depth_areas.at_) fd_depth_areas := fun_of FD_depth_areas
  obtain ⟨fd_covered_area, FD_covered_area⟩ := c.def_ 24 (d := dd_covered_area) rfl
  have Fn_covered_area : Fun K "covered_area" "covered_area" s_covered_area (He.fAd K dd_covered_area.at_) fd_covered_area := fun_of FD_covered_area
  obtain ⟨fd_Board_depth_area, FD_Board_depth_area⟩ := c.def_ 25 (d := dd_Board_depth_area) rfl
  have Fn_Board_depth_area : Fun K "depth_area" "Board.depth_area" s_Board_depth_area (He.fAd K dd_Board_depth_area.at_) fd_Board_depth_area := fun_of FD_Board_depth_area
  obtain ⟨fd_Board_area, FD_Board_area⟩ := c.def_ 26 (d := dd_Board_area) rfl
  have Fn_Board_area : Fun K "area" "Board.area" s_Board_area (He.fAd K dd_Board_area.at_) fd_Board_area := fun_of FD_Board_area
  obtain ⟨fd__law_right, FD__law_right⟩ := c.def_ 27 (d := dd__law_right) rfl
  have Fn__law_right : Fun K "_law_right" "_law_right" s__law_right (He.fAd K dd__law_right.at_) fd__law_right := fun_of FD__law_right
  obtain ⟨fd_Board___init__, FD_Board___init__⟩ := c.def_ 28 (d := dd_Board___init__) rfl
  have Fn_Board___init__ : Fun K "__init__" "Board.__init__" s_Board___init__ (He.fAd K dd_Board___init__.at_) fd_Board___init__ := fun_of FD_Board___init__
  obtain ⟨fd_Board_put_in, FD_Board_put_in⟩ := c.def_ 29 (d := dd_Board_put_in) rfl
  have Fn_Board_put_in : Fun K "put_in" "Board.put_in" s_Board_put_in (He.fAd K dd_Board_put_in.at_) fd_Board_put_in := fun_of FD_Board_put_in
  obtain ⟨fd_Board_take_out, FD_Board_take_out⟩ := c.def_ 30 (d := dd_Board_take_out) rfl
  have Fn_Board_take_out : Fun K "take_out" "Board.take_out" s_Board_take_out (He.fAd K dd_Board_take_out.at_) fd_Board_take_out := fun_of FD_Board_take_out
  obtain ⟨fd__law_taken, FD__law_taken⟩ := c.def_ 31 (d := dd__law_taken) rfl
  have Fn__law_taken : Fun K "_law_taken" "_law_taken" s__law_taken (He.fAd K dd__law_taken.at_) fd__law_taken := fun_of FD__law_taken
  obtain ⟨fd_law, FD_law⟩ := c.def_ 32 (d := dd_law) rfl
  have Fn_law : Fun K "law" "law" s_law (He.fAd K dd_law.at_) fd_law := fun_of FD_law
  have g_common := He.glo_ok X Gn (c.fact 0 (f := .glo "common") rfl)
  have g_is_more := He.glo_ok X Gn (c.fact 1 (f := .glo "is_more") rfl)
  have g_half := He.glo_ok X Gn (c.fact 2 (f := .glo "half") rfl)
  have g__law_mix := He.glo_ok X Gn (c.fact 3 (f := .glo "_law_mix") rfl)
  have g__law_fraction := He.glo_ok X Gn (c.fact 4 (f := .glo "_law_fraction") rfl)
  have g__law_has := He.glo_ok X Gn (c.fact 5 (f := .glo "_law_has") rfl)
  have g__law_whole := He.glo_ok X Gn (c.fact 6 (f := .glo "_law_whole") rfl)
  have g_fraction := He.glo_ok X Gn (c.fact 7 (f := .glo "fraction") rfl)
  have g__law_piece := He.glo_ok X Gn (c.fact 8 (f := .glo "_law_piece") rfl)
  have g__law_point := He.glo_ok X Gn (c.fact 9 (f := .glo "_law_point") rfl)
  have g__law_layers := He.glo_ok X Gn (c.fact 10 (f := .glo "_law_layers") rfl)
  have g_less := He.glo_ok X Gn (c.fact 11 (f := .glo "less") rfl)
  have g_on_round := He.glo_ok X Gn (c.fact 12 (f := .glo "on_round") rfl)
  have g_has := He.glo_ok X Gn (c.fact 13 (f := .glo "has") rfl)
  have g_layers := He.glo_ok X Gn (c.fact 14 (f := .glo "layers") rfl)
  have g_depth_areas := He.glo_ok X Gn (c.fact 15 (f := .glo "depth_areas") rfl)
  have g_covered_area := He.glo_ok X Gn (c.fact 16 (f := .glo "covered_area") rfl)
  have g__law_right := He.glo_ok X Gn (c.fact 17 (f := .glo "_law_right") rfl)
  have g__law_taken := He.glo_ok X Gn (c.fact 18 (f := .glo "_law_taken") rfl)
  have g_law := He.glo_ok X Gn (c.fact 19 (f := .glo "law") rfl)
  have g_Net := He.glo_ok X Gn (c.fact 20 (f := .glo "Net") rfl)
  have g_Board := He.glo_ok X Gn (c.fact 30 (f := .glo "Board") rfl)
  have g_RingError := He.glo_ok X Gn (c.fact 42 (f := .glo "RingError") rfl)
  have g_NoText := He.glo_ok X Gn (c.fact 43 (f := .glo "NoText") rfl)
  have g_NoPiece := He.glo_ok X Gn (c.fact 44 (f := .glo "NoPiece") rfl)
  have e := hfa.symm.trans g_law
  cases e
  refine ⟨fd_law, fun s v => FunD.bindsA (ps := ["_law_script"]) FD_law (fun _ _ _ _ _ _ us hl => match us, hl with | [_], _ => rfl) s [v] rfl, fun base Kb Gb => ?_⟩
  have B : Bl (⟨P, w, K, mg, base, 0, He.ga K "Net"⟩ : Gam) := ⟨He.free_ok X Gn (c.fact 47 (f := .free "ValueError") rfl), He.free_ok X Gn (c.fact 48 (f := .free "abs") rfl), He.free_ok X Gn (c.fact 49 (f := .free "bool") rfl), He.free_ok X Gn (c.fact 50 (f := .free "dict") rfl), He.free_ok X Gn (c.fact 51 (f := .free "enumerate") rfl), He.free_ok X Gn (c.fact 52 (f := .free "int") rfl), He.free_ok X Gn (c.fact 53 (f := .free "isinstance") rfl), He.free_ok X Gn (c.fact 54 (f := .free "len") rfl), He.free_ok X Gn (c.fact 55 (f := .free "list") rfl), He.free_ok X Gn (c.fact 56 (f := .free "range") rfl), He.free_ok X Gn (c.fact 57 (f := .free "set") rfl), He.free_ok X Gn (c.fact 58 (f := .free "sorted") rfl), He.free_ok X Gn (c.fact 59 (f := .free "sum") rfl), He.free_ok X Gn (c.fact 60 (f := .free "tuple") rfl)⟩
  have C : ∀ k, NetC (Gam.at ⟨P, w, K, mg, base, 0, He.ga K "Net"⟩ k) := fun k => ⟨He.cls_ok (c.fact 21 (f := .cls "Net") rfl), He.noat_ok (c.fact 22 (f := .noat "Net" "fars") rfl), He.noat_ok (c.fact 23 (f := .noat "Net" "turns") rfl), He.noat_ok (c.fact 24 (f := .noat "Net" "inside") rfl)⟩
  have R0 : BrdC (⟨P, w, K, mg, base, 0, He.ga K "Net"⟩ : Gam) := ⟨He.cls_ok (c.fact 31 (f := .cls "Board") rfl), He.noat_ok (c.fact 32 (f := .noat "Board" "rows") rfl), He.noat_ok (c.fact 33 (f := .noat "Board" "next_number") rfl)⟩
  have R : ∀ k, BrdC (Gam.at ⟨P, w, K, mg, base, 0, He.ga K "Net"⟩ k) := fun k => ⟨R0.cl, R0.nr, R0.nn⟩
  have r_common := ok_common B Fn_common g_common
  have r_is_more := ok_is_more B Fn_is_more g_is_more
  have r_Net_width := ok_Net_width B Fn_Net_width (He.meth_ok (c.fact 26 (f := .meth "Net" "width") rfl)) (C _)
  have r_Net_bounded := ok_Net_bounded B Fn_Net_bounded (He.meth_ok (c.fact 27 (f := .meth "Net" "bounded") rfl)) (C _)
  have r_half := ok_half B Fn_half g_half
  have r_Board_numbers := ok_Board_numbers B Fn_Board_numbers (He.meth_ok (c.fact 35 (f := .meth "Board" "numbers") rfl)) (R _)
  have r__law_mix := ok__law_mix B Fn__law_mix g__law_mix
  have r__law_fraction := ok__law_fraction B Fn__law_fraction g__law_fraction
  have r__law_has := ok__law_has B Fn__law_has g__law_has
  have r__law_whole := ok__law_whole B Fn__law_whole g__law_whole
  have r_fraction := ok_fraction B Fn_fraction g_fraction (r_common.up (by decide))
  have r_Net_point_in := ok_Net_point_in B Fn_Net_point_in (He.meth_ok (c.fact 28 (f := .meth "Net" "point_in") rfl)) (C _) (r_half.up (by decide)) (r_Net_width.up (by decide))
  have r_Net_area := ok_Net_area B Fn_Net_area (He.meth_ok (c.fact 29 (f := .meth "Net" "area") rfl)) (C _) (r_Net_width.up (by decide))
  have r_Board_sheet := ok_Board_sheet B Fn_Board_sheet (He.meth_ok (c.fact 36 (f := .meth "Board" "sheet") rfl)) (R _) (r_Board_numbers.up (by decide))
  have r__law_piece := ok__law_piece B Fn__law_piece g__law_piece (r__law_mix.up (by decide))
  have r__law_point := ok__law_point B Fn__law_point g__law_point (r__law_fraction.up (by decide)) (r__law_mix.up (by decide))
  have r__law_layers := ok__law_layers B Fn__law_layers g__law_layers (r__law_has.up (by decide))
  have r_less := ok_less B Fn_less g_less (r_fraction.up (by decide))
  have r_on_round := ok_on_round B Fn_on_round g_on_round (r_fraction.up (by decide))
  have r_has := ok_has B Fn_has g_has (r_is_more.up (by decide)) (r_on_round.up (by decide)) (r_less.up (by decide))
  have r_layers := ok_layers B Fn_layers g_layers (r_has.up (by decide))
  have r_Net___init__ := ok_Net___init__ B Fn_Net___init__ g_Net (He.mkr_ok (c.fact 25 (f := .mkr "Net") rfl)) (C _) (r_layers.up (by decide)) (r_Net_point_in.up (by decide))
  have r_Board_layers_at := ok_Board_layers_at B Fn_Board_layers_at (He.meth_ok (c.fact 37 (f := .meth "Board" "layers_at") rfl)) (R _) (r_layers.up (by decide)) (r_Board_numbers.up (by decide)) (r_Board_sheet.up (by decide))
  have r_depth_areas := ok_depth_areas B Fn_depth_areas g_depth_areas (C _) (r_Net___init__.up (by decide)) (r_Net_bounded.up (by decide)) (r_Net_area.up (by decide))
  have r_covered_area := ok_covered_area B Fn_covered_area g_covered_area (r_depth_areas.up (by decide))
  have r_Board_depth_area := ok_Board_depth_area B Fn_Board_depth_area (He.meth_ok (c.fact 38 (f := .meth "Board" "depth_area") rfl)) (R _) (r_depth_areas.up (by decide)) (r_Board_sheet.up (by decide))
  have r_Board_area := ok_Board_area B Fn_Board_area (He.meth_ok (c.fact 39 (f := .meth "Board" "area") rfl)) (R _) (r_covered_area.up (by decide)) (r_Board_sheet.up (by decide))
  have r__law_right := ok__law_right B Fn__law_right g__law_right (R _) (r_covered_area.up (by decide)) (r__law_layers.up (by decide)) (r_depth_areas.up (by decide)) (r_Board_numbers.up (by decide)) (r_Board_sheet.up (by decide)) (r_Board_area.up (by decide)) (r_Board_layers_at.up (by decide)) (r_Board_depth_area.up (by decide))
  obtain ⟨x1, x2⟩ := He.exc_ok (c.fact 45 (f := .exc "NoPiece") rfl)
  obtain ⟨x2, x3, x4⟩ := x2
  have eR := He.exm_ok (c.fact 46 (f := .exm "NoPiece" "RingError" true) rfl)
  obtain ⟨y1, z⟩ := He.ba cX.x
  obtain ⟨y2, z⟩ := He.ba z
  obtain ⟨y3, z⟩ := He.ba z
  obtain ⟨y4, z⟩ := He.ba z
  obtain ⟨y5, z⟩ := He.ba z
  obtain ⟨y6, z⟩ := He.ba z
  obtain ⟨y7, z⟩ := He.ba z
  obtain ⟨y8, z⟩ := He.ba z
  obtain ⟨y9, y10⟩ := He.ba z
  have W : ErrC (⟨P, w, K, mg, base, 0, He.ga K "Net"⟩ : Gam) := ⟨g_NoPiece, g_NoText, g_RingError, x1, x2, x3, x4, eR, ⟨He.eqO_ok y1, He.eqO_ok y2, x3, y3, He.eqO_ok y4, He.eqO_ok y5, of_decide_eq_true y6, of_decide_eq_true y7⟩, of_decide_eq_true y8, of_decide_eq_true y9, of_decide_eq_true y10⟩
  have mT := He.meth_ok (c.fact 41 (f := .meth "Board" "take_out") rfl)
  have bT := Fn_Board_take_out.binds (ps := ["self", "number"]) fun _ _ _ _ _ _ us hl => match us, hl with | [_, _], _ => rfl
  have kT := ok_Take (Γ := (⟨P, w, K, mg, base, 0, He.ga K "Net"⟩ : Gam)) B R0 W Fn_Board_take_out
  have kTn := ok_Taken (Γ := (⟨P, w, K, mg, base, 0, He.ga K "Net"⟩ : Gam)) B R0 W Fn__law_taken mT bT kT
  have bTn := Fn__law_taken.binds (ps := ["_law_board", "_law_number"]) fun _ _ _ _ _ _ us hl => match us, hl with | [_, _], _ => rfl
  have mP := He.meth_ok (c.fact 40 (f := .meth "Board" "put_in") rfl)
  have bP := Fn_Board_put_in.binds (ps := ["self", "piece"]) fun _ _ _ _ _ _ us hl => match us, hl with | [_, _], _ => rfl
  have kP := ok_Put (Γ := (⟨P, w, K, mg, base, 0, He.ga K "Net"⟩ : Gam)) R0 Fn_Board_put_in
  have bI := Fn_Board___init__.binds (ps := ["self"]) fun _ _ _ _ _ _ us hl => match us, hl with | [_], _ => rfl
  have kI := ok_BI (Γ := (⟨P, w, K, mg, base, 0, He.ga K "Net"⟩ : Gam)) R0 Fn_Board___init__
  have mk := He.mkr_ok (c.fact 34 (f := .mkr "Board") rfl)
  exact fnD_law8 (Γ := (⟨P, w, K, mg, base, 0, He.ga K "Net"⟩ : Gam)) B R0 Fn_law (r__law_piece.up (by decide)) (r__law_whole.up (by decide)) (r__law_mix.up (by decide)) (r__law_point.up (by decide)) (r__law_right.up (by decide)) ⟨1, _, _, (show 2 ≤ 11 by decide), g_Board, mk, bI, kI⟩ ⟨_, _, mP, bP, kP⟩ ⟨_, _, g__law_taken, Fn__law_taken.kp, bTn, kTn⟩
end Pv
open PySem PySem.W PySem.Calls PyProof.Rows
theorem PySem.Challenge.cw_ringlayers_k08_whole_boards_holds : PySem.Challenge.rw_ringlayers_k08_whole_boards.Holds := by
  w_on; o_law
  refine HandSHeadRun.head_any (r := OpenLaw.row PySem.Challenge.rw_ringlayers_k08_whole_boards) (q := view (OpenLaw.row PySem.Challenge.rw_ringlayers_k08_whole_boards).prog [34]) (H := Pv.hkL) (ob := Pv.obL) (M := 3000) (loose := Pv.looseL) (d := HandSHeadRun.topDef (OpenLaw.row PySem.Challenge.rw_ringlayers_k08_whole_boards).prog 34) (kwd := []) Pv.obL_eq
    (by kernel_rfl) (fun s => by kernel_rfl) Pv.runL (by kernel_rfl) (by kernel_rfl) (by kernel_rfl) (by rfl) (by first | assumption | decide +kernel) (by decide +kernel) ⟨rfl, rfl, rfl, rfl, rfl, by decide +kernel⟩ ?hw ?hc
  case hw => w_witness2
  case hc =>
    refine L2.walk_ofE (l := PySem.Challenge.rw_ringlayers_k08_whole_boards) (n := 63) (k := 12) (x := "_law_script") (CX := L2.CX0) rfl (by decide) (by kernel_rfl) ⟨rfl, by decide, by decide⟩ ?F (fun _ _ _ _ z => z)
    intro w mg fa h Y G hmg0
    obtain ⟨K, KX, c⟩ := Y
    have hmg : mg ("law" : PySem.Str) = some (.ref fa) := by
      have e : (HandSHeadRun.topDef (OpenLaw.row PySem.Challenge.rw_ringlayers_k08_whole_boards).prog 34).name = ("law" : PySem.Str) := by kernel_rfl
      rw [← e]
      exact hmg0
    obtain ⟨fd, hb, hF⟩ := Pv.factsL (P := (PySem.Challenge.rw_ringlayers_k08_whole_boards).prog) (w := w) KX G hmg c
    exact ⟨K, fd, Pv.spLw K, KX, hb, fun H a ns hl _ hS => ⟨a, ns, rfl, hS, hl, fun _ => rfl⟩, fun base h1 h2 => hF base h1 h2⟩

