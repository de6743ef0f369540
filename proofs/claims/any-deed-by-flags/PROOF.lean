import PyProof.Rows.All
import Wide.All
import OpenK.AllK
import Wide.FinOn
import KE.KStateDown
import Lean
import HandS.Head0
import HandS.Head1
import HandS.Head2
import HandS.HeadEnd
import HandS.HeadHook1
import HandS.HeadHook2
import HandS.Words
import HandS.Defaults
import HandS.IsInst
import HandS.ForMost
import HandS.Walk
import HandS.Style
import PySem.Challenge.RW_anyletter_k58_whole_any_deed_by_flags
import KE.KSuper
import HandS.Base
import HandS.Call
import HandS.More
import HandS.Star
import HandS.Nested
import HandS.Dict
import HandS.Text
import KE.DataMinMax
import KE.SortData
import HandS.List
import KE.GoesEnum
import HandS.Iter
import PyProof.ListMulRoad
import PyProof.FactsAll.tuple_2
import HandS.TupMul
import HandS.DictComp
import KE.KTypeName
import PyProof.InstNe
import HandS.Comp
import HandS.Codes
import HandS.Strs
import HandS.Zip
import PyProof.SetNew
import PyProof.Rows.SetFrom
import PyProof.StrOps2
import PyProof.ListStr
import HandS.OwnEq
/-! AL1 -/
section
set_option Elab.async false
set_option linter.all false
set_option maxRecDepth 100000
set_option maxHeartbeats 4000000
namespace AL
open PySem L2

/-! ### data -/
inductive Dt where
  | non | bl (b : Bool) | int (i : Int) | str (x : Str) | ty (n : String) | adr (a : Addr)
  | lst (ds : List Dt) | tup (ds : List Dt) | ins (C : Addr) (ns : List Str) (ds : List Dt) | dk (ks : List Key) (ds : List Dt) | dl (ks : List Key) (ds : List Dt) | te | sc (ns : List Int)

theorem sq_mono {K : PySem.W.Frag} {G G' : Hp} {a : Addr} {xs : List V} (e : Same G G') (h : SqL K G a xs) : SqL K G' a xs := h.imp (fun h => h.imp (e _ _) fun ⟨o, q⟩ => ⟨o, e _ _ q⟩) id
mutual
/-- a value that stands for a datum, by the frozen heap G -/
inductive Rp (K : PySem.W.Frag) (G : Hp) : V → Dt → Prop
  | non : Rp K G .non .non
  | bl (b : Bool) : Rp K G (.bl b) (.bl b)
  | int (i : Int) : Rp K G (.int i) (.int i)
  | str (x : Str) : Rp K G (.str x) (.str x)
  | ty (n : String) : Rp K G (.ty n) (.ty n)
  | adr (a : Addr) : Rp K G (.ref a) (.adr a)
  | lst {a : Addr} {xs : List V} {ds : List Dt} : G a = some (.lst xs) → RpL K G xs ds → Rp K G (.ref a) (.lst ds)
  | tup {a : Addr} {xs : List V} {ds : List Dt} : G a = some (.tup xs) → RpL K G xs ds → Rp K G (.ref a) (.tup ds)
  | ins {a C dx : Addr} {fs : List (Str × V)} {ns : List Str} {ds : List Dt} : G a = some (.ins C dx fs) → fs.map (·.1) = ns → RpL K G (fs.map (·.2)) ds → Rp K G (.ref a) (.ins C ns ds)
  | dk {a : Addr} {kvs : List (Key × V)} {ks : List Key} {ds : List Dt} : G a = some (.dK kvs) → kvs.map (·.1) = ks → RpL K G (kvs.map (·.2)) ds → Rp K G (.ref a) (.dk ks ds)
  | dl {a : Addr} {o : Obj} {kvs : List (Key × V)} {ks : List Key} {ds : List Dt} : G a = some (.frz o (.dK kvs)) → kvs.map (·.1) = ks → RpL K G (kvs.map (·.2)) ds → Rp K G (.ref a) (.dl ks ds)
  | te {a : Addr} : G a = some (.dT []) → Rp K G (.ref a) .te
  | sc {a : Addr} {ns : List Int} : SqL K G a (ns.map V.int) → Rp K G (.ref a) (.sc ns)
inductive RpL (K : PySem.W.Frag) (G : Hp) : List V → List Dt → Prop
  | nil : RpL K G [] []
  | cons {v : V} {vs : List V} {d : Dt} {ds : List Dt} : Rp K G v d → RpL K G vs ds → RpL K G (v :: vs) (d :: ds)
end

section
variable {K : PySem.W.Frag} {G G' : Hp}
mutual
theorem Rp.mono (e : Same G G') : ∀ {v : V} {d : Dt}, Rp K G v d → Rp K G' v d
  | _, _, .non => .non
  | _, _, .bl b => .bl b
  | _, _, .int i => .int i
  | _, _, .str x => .str x
  | _, _, .ty n => .ty n
  | _, _, .adr a => .adr a
  | _, _, .lst h r => .lst (e _ _ h) (RpL.mono e r)
  | _, _, .tup h r => .tup (e _ _ h) (RpL.mono e r)
  | _, _, .ins h n r => .ins (e _ _ h) n (RpL.mono e r)
  | _, _, .dk h n r => .dk (e _ _ h) n (RpL.mono e r)
  | _, _, .dl h n r => .dl (e _ _ h) n (RpL.mono e r)
  | _, _, .te h => .te (e _ _ h)
  | _, _, .sc h => .sc (sq_mono e h)
theorem RpL.mono (e : Same G G') : ∀ {vs : List V} {ds : List Dt}, RpL K G vs ds → RpL K G' vs ds
  | _, _, .nil => .nil
  | _, _, .cons h r => .cons (Rp.mono e h) (RpL.mono e r)
end
theorem RpL.length : ∀ {vs : List V} {ds : List Dt}, RpL K G vs ds → vs.length = ds.length
  | _, _, .nil => rfl
  | _, _, .cons _ r => congrArg Nat.succ (RpL.length r)
theorem RpL.append : ∀ {vs ws : List V} {ds es : List Dt}, RpL K G vs ds → RpL K G ws es → RpL K G (vs ++ ws) (ds ++ es)
  | _, _, _, _, .nil, s => s
  | _, _, _, _, .cons h r, s => .cons h (RpL.append r s)
theorem RpL.get : ∀ {vs : List V} {ds : List Dt} {i : Nat} {d : Dt}, RpL K G vs ds → ds[i]? = some d → ∃ v, vs[i]? = some v ∧ Rp K G v d
  | _, _, _, _, .nil, e => by simp at e
  | _, _, 0, _, .cons h _, e => by simp at e; subst e; exact ⟨_, rfl, h⟩
  | _, _, i + 1, d, .cons _ r, e => by
    obtain ⟨v, h1, h2⟩ := RpL.get (i := i) (d := d) r (by simpa using e)
    exact ⟨v, by simpa using h1, h2⟩
theorem RpL.get' : ∀ {vs : List V} {ds : List Dt} {i : Nat} {v : V}, RpL K G vs ds → vs[i]? = some v → ∃ d, ds[i]? = some d ∧ Rp K G v d
  | _, _, _, _, .nil, e => by simp at e
  | _, _, 0, _, .cons h _, e => by simp at e; subst e; exact ⟨_, rfl, h⟩
  | _, _, i + 1, v, .cons _ r, e => by
    obtain ⟨d, h1, h2⟩ := RpL.get' (i := i) (v := v) r (by simpa using e)
    exact ⟨d, by simpa using h1, h2⟩
theorem RpL.set {v : V} {d : Dt} (h : Rp K G v d) : ∀ {vs : List V} {ds : List Dt} (i : Nat), RpL K G vs ds → RpL K G (vs.set i v) (ds.set i d)
  | _, _, _, .nil => .nil
  | _, _, 0, .cons _ r => .cons h r
  | _, _, i + 1, .cons q r => .cons q (RpL.set h i r)
theorem RpL.take : ∀ {vs : List V} {ds : List Dt} (n : Nat), RpL K G vs ds → RpL K G (vs.take n) (ds.take n)
  | _, _, 0, _ => .nil
  | _, _, _ + 1, .nil => .nil
  | _, _, n + 1, .cons h r => .cons h (RpL.take n r)
theorem RpL.drop : ∀ {vs : List V} {ds : List Dt} (n : Nat), RpL K G vs ds → RpL K G (vs.drop n) (ds.drop n)
  | _, _, 0, r => r
  | _, _, _ + 1, .nil => .nil
  | _, _, n + 1, .cons _ r => RpL.drop n r
theorem RpL.reverse : ∀ {vs : List V} {ds : List Dt}, RpL K G vs ds → RpL K G vs.reverse ds.reverse
  | _, _, .nil => .nil
  | _, _, .cons h r => by
    rw [List.reverse_cons, List.reverse_cons]
    exact (RpL.reverse r).append (.cons h .nil)
theorem RpL.ints : ∀ {ns : List Int}, RpL K G (ns.map V.int) (ns.map Dt.int)
  | [] => .nil
  | _ :: _ => .cons (.int _) RpL.ints
theorem RpL.strs : ∀ {ns : List Str}, RpL K G (ns.map V.str) (ns.map Dt.str)
  | [] => .nil
  | _ :: _ => .cons (.str _) RpL.strs
theorem RpL.bls : ∀ {ns : List Bool}, RpL K G (ns.map V.bl) (ns.map Dt.bl)
  | [] => .nil
  | _ :: _ => .cons (.bl _) RpL.bls
theorem RpL.of_ints : ∀ {ns : List Int} {vs : List V}, RpL K G vs (ns.map Dt.int) → vs = ns.map V.int
  | [], _, .nil => rfl
  | _ :: _, _, .cons (.int _) r => congrArg _ (RpL.of_ints r)
theorem RpL.of_strs : ∀ {ns : List Str} {vs : List V}, RpL K G vs (ns.map Dt.str) → vs = ns.map V.str
  | [], _, .nil => rfl
  | _ :: _, _, .cons (.str _) r => congrArg _ (RpL.of_strs r)
theorem RpL.of_bls : ∀ {ns : List Bool} {vs : List V}, RpL K G vs (ns.map Dt.bl) → vs = ns.map V.bl
  | [], _, .nil => rfl
  | _ :: _, _, .cons (.bl _) r => congrArg _ (RpL.of_bls r)
end

/-! ### frames -/
/-- from (G, H) to (G', H'): G the frozen part; W what may have been written -/
structure Fr (W : List Addr) (G H G' H' : Hp) : Prop where
  g : Same G G'
  s : Same G' H'
  h : ∀ b o, b ∉ W → H b = some o → H' b = some o
  n : ∀ b, H b ≠ none → G b = none → G' b = none
  t : ∀ b, H b ≠ none → H' b ≠ none
section
variable {W W' : List Addr} {G H G1 H1 G2 H2 : Hp}
theorem Fr.refl (e : Same G H) : Fr W G H G H := ⟨Same.refl _, e, fun _ _ _ h => h, fun _ _ h => h, fun _ h => h⟩
theorem Fr.trans (a : Fr W G H G1 H1) (b : Fr W G1 H1 G2 H2) : Fr W G H G2 H2 :=
  ⟨a.g.trans b.g, b.s, fun c o hc e => b.h c o hc (a.h c o hc e), fun c h e => b.n c (a.t c h) (a.n c h e), fun c h => b.t c (a.t c h)⟩
theorem Fr.mono (a : Fr W G H G1 H1) (h : ∀ b ∈ W, b ∈ W') : Fr W' G H G1 H1 := ⟨a.g, a.s, fun b o hb e => a.h b o (fun z => hb (h b z)) e, a.n, a.t⟩
theorem Fr.wide (a : Fr [] G H G1 H1) : Fr W G H G1 H1 := a.mono fun _ z => nomatch z
theorem Fr.same (a : Fr [] G H G1 H1) : Same H H1 := fun b o e => a.h b o (by simp) e
/-- something new, frozen at once -/
theorem Fr.new {p : Addr} {o : HO} (e : Same G H) (hp : H p = none) : Fr W G H (upd G p o) (upd H p o) := by
  have gp : G p = none := e.free hp
  refine ⟨fun b x q => ?_, fun b x q => ?_, fun b x _ q => ?_, fun b h q => ?_, fun b h => ?_⟩
  · rw [upd_ne (ne_of_none q gp)]; exact q
  · by_cases hb : b = p
    · subst hb; rw [upd_same] at q ⊢; exact q
    · rw [upd_ne hb] at q ⊢; exact e _ _ q
  · rw [upd_ne (ne_of_none q hp)]; exact q
  · by_cases hb : b = p
    · subst hb; exact absurd hp h
    · rw [upd_ne hb]; exact q
  · by_cases hb : b = p
    · subst hb; rw [upd_same]; exact fun z => nomatch z
    · rw [upd_ne hb]; exact h
/-- something new, not frozen -/
theorem Fr.fresh {p : Addr} {o : HO} (e : Same G H) (hp : H p = none) : Fr W G H G (upd H p o) := by
  refine ⟨Same.refl _, fun b x q => ?_, fun b x _ q => ?_, fun b h q => q, fun b h => ?_⟩
  · rw [upd_ne (ne_of_none (e _ _ q) hp)]; exact e _ _ q
  · rw [upd_ne (ne_of_none q hp)]; exact q
  · by_cases hb : b = p
    · subst hb; exact absurd hp h
    · rw [upd_ne hb]; exact h
/-- one that was made since, or may be written, is frozen -/
theorem Fr.freeze {p : Addr} {o : HO} (a : Fr W G H G1 H1) (hp : H p = none) (h1 : H1 p = some o) (g1 : G1 p = none) : Fr W G H (upd G1 p o) H1 := by
  refine ⟨a.g.trans fun b x q => ?_, fun b x q => ?_, a.h, fun b h q => ?_, a.t⟩
  · rw [upd_ne (ne_of_none q g1)]; exact q
  · by_cases hb : b = p
    · subst hb; rw [upd_same] at q; rw [h1]; exact q
    · rw [upd_ne hb] at q; exact a.s _ _ q
  · by_cases hb : b = p
    · subst hb; exact absurd hp h
    · rw [upd_ne hb]; exact a.n b h q
/-- one that is not frozen is written -/
theorem Fr.write {p : Addr} {o : HO} (a : Fr W G H G1 H1) (hp : H p = none ∨ p ∈ W) (g1 : G1 p = none) : Fr W G H G1 (upd H1 p o) := by
  refine ⟨a.g, fun b x q => ?_, fun b x hb q => ?_, a.n, fun b h => ?_⟩
  · rw [upd_ne (ne_of_none q g1)]; exact a.s _ _ q
  · rcases hp with hp | hp
    · rw [upd_ne (ne_of_none q hp)]; exact a.h b x hb q
    · rw [upd_ne (fun z => hb (by rw [z]; exact hp))]; exact a.h b x hb q
  · by_cases hb : b = p
    · subst hb; rw [upd_same]; exact fun z => nomatch z
    · rw [upd_ne hb]; exact a.t b h
end

section
variable {K : PySem.W.Frag} {G H : Hp} {W : List Addr} {xs : List V} {ds : List Dt} {p : Addr}
theorem new_lst (e : Same G H) (hp : H p = none) (r : RpL K G xs ds) : Fr W G H (upd G p (.lst xs)) (upd H p (.lst xs)) ∧ Rp K (upd G p (.lst xs)) (.ref p) (.lst ds) := by
  have f := Fr.new (W := W) (o := .lst xs) e hp
  exact ⟨f, .lst upd_same (r.mono f.g)⟩
theorem new_tup (e : Same G H) (hp : H p = none) (r : RpL K G xs ds) : Fr W G H (upd G p (.tup xs)) (upd H p (.tup xs)) ∧ Rp K (upd G p (.tup xs)) (.ref p) (.tup ds) := by
  have f := Fr.new (W := W) (o := .tup xs) e hp
  exact ⟨f, .tup upd_same (r.mono f.g)⟩
end

/-! ### slots -/
/-- dicts whose keys are tuples: the items -/
abbrev KTs := List (List Key × Dt)
inductive RpT (K : PySem.W.Frag) (G : Hp) : List (List Key × V) → KTs → Prop
  | nil : RpT K G [] []
  | cons (k : List Key) {v : V} {d : Dt} {r : List (List Key × V)} {q : KTs} : Rp K G v d → RpT K G r q → RpT K G ((k, v) :: r) ((k, d) :: q)
theorem RpT.mono {K : PySem.W.Frag} {G G' : Hp} (e : Same G G') : ∀ {a : List (List Key × V)} {b : KTs}, RpT K G a b → RpT K G' a b
  | _, _, .nil => .nil
  | _, _, .cons k h r => .cons k (h.mono e) (r.mono e)
/-- three dicts of an object -/
structure Tri where
  a : Addr
  b : Addr
  c : Addr
  ka : KTs
  kb : KTs
  kc : KTs
/-- what a slot holds: a frozen datum; a list of one's own that is being made; an object at p that is being made; the harbor at a, its turns; the same by its items; a frozen object with three dicts -/
inductive Sd where
  | sh (d : Dt) | mu (ds : List Dt) | ob (p C : Addr) (ns : List Str) (ds : List Dt) | hb (a : Addr) (n : Nat) | hx (a : Addr) (ds : List Dt) | co (d : Dt) (t : Tri)
/-- the addresses that a slot owns -/
def Sd.fp : V → Sd → List Addr
  | _, .sh _ => []
  | _, .co _ t => [t.a, t.b, t.c]
  | .ref l, _ => [l]
  | _, _ => []
def Sd.own : Sd → Bool
  | .sh _ => false
  | _ => true
/-- where a body began: what it may write, what stood -/
structure Og where
  W : List Addr
  H0 : Hp
abbrev Og.may (O : Og) (a : Addr) : Prop := O.H0 a = none ∨ a ∈ O.W
/-- the harbor: a list of the cells, how many were begun (n at most), what is left of a great one -/
def HbAt (K : PySem.W.Frag) (G H : Hp) (a : Addr) (n : Nat) : Prop :=
  ∃ (c : Addr) (t r : Int) (cs : List Int), H a = some (.lst [.ref c, .int t, .int r]) ∧ G c = some (.lst (cs.map V.int)) ∧ 0 ≤ t ∧ t ≤ (n : Int) ∧ 0 ≤ r
def DtAt (K : PySem.W.Frag) (G H : Hp) (a : Addr) (k : KTs) : Prop := ∃ kvs, H a = some (.dT kvs) ∧ RpT K G kvs k
structure TriOk (K : PySem.W.Frag) (O : Og) (G H : Hp) (t : Tri) : Prop where
  a : DtAt K G H t.a t.ka
  b : DtAt K G H t.b t.kb
  c : DtAt K G H t.c t.kc
  ab : t.a ≠ t.b
  ac : t.a ≠ t.c
  bc : t.b ≠ t.c
  g : ∀ l ∈ [t.a, t.b, t.c], G l = none ∧ O.may l
def SdOk (K : PySem.W.Frag) (O : Og) (G H : Hp) (v : V) : Sd → Prop
  | .sh d => Rp K G v d
  | .mu ds => ∃ l xs, v = .ref l ∧ H l = some (.lst xs) ∧ RpL K G xs ds ∧ G l = none ∧ O.H0 l = none
  | .ob p C ns ds => ∃ dx fs, v = .ref p ∧ H p = some (.ins C dx fs) ∧ fs.map (·.1) = ns ∧ RpL K G (fs.map (·.2)) ds ∧ G p = none ∧ O.may p
  | .hb a n => v = .ref a ∧ HbAt K G H a n ∧ G a = none ∧ O.may a
  | .hx a ds => ∃ xs, v = .ref a ∧ H a = some (.lst xs) ∧ RpL K G xs ds ∧ G a = none ∧ O.may a
  | .co d t => Rp K G v d ∧ TriOk K O G H t
abbrev De := List (Option Sd)
structure Sl (K : PySem.W.Frag) (O : Og) (G H : Hp) (σ : St) (δ : De) : Prop where
  len : σ.length = δ.length
  at_ : ∀ (i : Nat) (s : Sd), δ[i]? = some (some s) → ∃ v, σ[i]? = some (some v) ∧ SdOk K O G H v s
  ne : ∀ (i j : Nat) (s s' : Sd) (v v' : V), i ≠ j → δ[i]? = some (some s) → δ[j]? = some (some s') → σ[i]? = some (some v) → σ[j]? = some (some v') → ∀ l ∈ s.fp v, l ∉ s'.fp v'
section
variable {K : PySem.W.Frag} {O : Og} {G H G' H' : Hp} {σ : St} {δ : De} {v : V} {s : Sd}
theorem HbAt.mono {a : Addr} {n : Nat} (h : HbAt K G H a n) (f : Fr [] G H G' H') : HbAt K G' H' a n := by
  obtain ⟨c, t, r, cs, h1, h2, h3⟩ := h
  exact ⟨c, t, r, cs, f.same _ _ h1, f.g _ _ h2, h3⟩
theorem ne_none {H : Hp} {a : Addr} {o : HO} (h : H a = some o) : H a ≠ none := by rw [h]; exact fun z => nomatch z
theorem DtAt.at {a : Addr} {k : KTs} (h : DtAt K G H a k) (g : Same G G') (hh : ∀ o, H a = some o → H' a = some o) : DtAt K G' H' a k := by
  obtain ⟨kvs, h1, h2⟩ := h
  exact ⟨kvs, hh _ h1, h2.mono g⟩
/-- what a slot owns stands, unfrozen -/
theorem SdOk.foot (h : SdOk K O G H v s) : ∀ l ∈ s.fp v, (∃ o, H l = some o) ∧ G l = none := by
  intro l hl
  cases s with
  | sh d => cases v <;> cases hl
  | mu ds =>
    obtain ⟨l, xs, rfl, h1, h2, h3, h4⟩ := h
    obtain rfl := List.mem_singleton.mp hl
    exact ⟨⟨_, h1⟩, h3⟩
  | ob p C ns ds =>
    obtain ⟨dx, fs, rfl, h1, h2, h3, h4, h5⟩ := h
    obtain rfl := List.mem_singleton.mp hl
    exact ⟨⟨_, h1⟩, h4⟩
  | hb a n =>
    obtain ⟨rfl, ⟨c, t, r, cs, q, _⟩, h2, h3⟩ := h
    obtain rfl := List.mem_singleton.mp hl
    exact ⟨⟨_, q⟩, h2⟩
  | hx a ds =>
    obtain ⟨xs, rfl, h1, h2, h3, h4⟩ := h
    obtain rfl := List.mem_singleton.mp hl
    exact ⟨⟨_, h1⟩, h3⟩
  | co d t =>
    have hl : l ∈ [t.a, t.b, t.c] := by cases v <;> exact hl
    refine ⟨?_, (h.2.g l hl).1⟩
    rcases List.mem_cons.mp hl with rfl | hl
    · exact let ⟨_, q, _⟩ := h.2.a; ⟨_, q⟩
    · rcases List.mem_cons.mp hl with rfl | hl
      · exact let ⟨_, q, _⟩ := h.2.b; ⟨_, q⟩
      · obtain rfl := List.mem_singleton.mp hl
        exact let ⟨_, q, _⟩ := h.2.c; ⟨_, q⟩
/-- a slot stands where what it owns does -/
theorem SdOk.at (h : SdOk K O G H v s) (g : Same G G') (hh : ∀ l ∈ s.fp v, ∀ o, H l = some o → H' l = some o) (hn : ∀ l ∈ s.fp v, G' l = none) : SdOk K O G' H' v s := by
  cases s with
  | sh d => exact Rp.mono g h
  | mu ds =>
    obtain ⟨l, xs, rfl, h1, h2, h3, h4⟩ := h
    exact ⟨l, xs, rfl, hh l (List.mem_cons_self ..) _ h1, h2.mono g, hn l (List.mem_cons_self ..), h4⟩
  | ob p C ns ds =>
    obtain ⟨dx, fs, rfl, h1, h2, h3, h4, h5⟩ := h
    exact ⟨dx, fs, rfl, hh p (List.mem_cons_self ..) _ h1, h2, h3.mono g, hn p (List.mem_cons_self ..), h5⟩
  | hb a n =>
    obtain ⟨rfl, ⟨c, t, r, cs, q, q2, q3⟩, h2, h3⟩ := h
    exact ⟨rfl, ⟨c, t, r, cs, hh a (List.mem_cons_self ..) _ q, g _ _ q2, q3⟩, hn a (List.mem_cons_self ..), h3⟩
  | hx a ds =>
    obtain ⟨xs, rfl, h1, h2, h3, h4⟩ := h
    exact ⟨xs, rfl, hh a (List.mem_cons_self ..) _ h1, h2.mono g, hn a (List.mem_cons_self ..), h4⟩
  | co d t =>
    have e : Sd.fp v (.co d t) = [t.a, t.b, t.c] := by cases v <;> rfl
    rw [e] at hh hn
    obtain ⟨h0, h1⟩ := h
    exact ⟨h0.mono g, h1.a.at g (hh _ (by simp)), h1.b.at g (hh _ (by simp)), h1.c.at g (hh _ (by simp)), h1.ab, h1.ac, h1.bc, fun l hl => ⟨hn l hl, (h1.g l hl).2⟩⟩
theorem SdOk.mono (h : SdOk K O G H v s) (f : Fr [] G H G' H') : SdOk K O G' H' v s :=
  h.at f.g (fun l _ o q => f.same _ _ q) fun l hl => by
    obtain ⟨⟨o, q⟩, n⟩ := h.foot l hl
    exact f.n _ (ne_none q) n
theorem Sl.mono (x : Sl K O G H σ δ) (f : Fr [] G H G' H') : Sl K O G' H' σ δ :=
  ⟨x.len, fun i s e => by
    obtain ⟨v, h1, h2⟩ := x.at_ i s e
    exact ⟨v, h1, h2.mono f⟩, x.ne⟩
theorem Sl.sh (x : Sl K O G H σ δ) {i : Nat} {d : Dt} (e : δ[i]? = some (some (.sh d))) : ∃ v, σ[i]? = some (some v) ∧ Rp K G v d := x.at_ i _ e
theorem set_key {α : Type} {δ : List (Option α)} {i j : Nat} {x : Option α} {s : α} (e : (δ.set j x)[i]? = some (some s)) : (i = j ∧ x = some s ∧ j < δ.length) ∨ (i ≠ j ∧ δ[i]? = some (some s)) := by
  by_cases hi : j = i
  · subst hi
    by_cases hj : j < δ.length
    · rw [List.getElem?_set_self hj] at e
      exact .inl ⟨rfl, by simpa using e, hj⟩
    · rw [List.getElem?_eq_none (by simpa using hj)] at e; cases e
  · rw [List.getElem?_set_ne hi] at e
    exact .inr ⟨fun z => hi z.symm, e⟩
/-- slot j is set, what it owns apart from the others'; what the others own stands -/
theorem Sl.put (x : Sl K O G H σ δ) (j : Nat) {s : Sd} (h : SdOk K O G' H' v s) (g : Same G G')
    (hh : ∀ i s' w, i ≠ j → δ[i]? = some (some s') → σ[i]? = some (some w) → ∀ l ∈ s'.fp w, (∀ o, H l = some o → H' l = some o) ∧ G' l = none) (hs : ∀ i s' w, i ≠ j → δ[i]? = some (some s') → σ[i]? = some (some w) → ∀ l ∈ s'.fp w, l ∉ s.fp v) :
    Sl K O G' H' (σ.set j (some v)) (δ.set j (some s)) := by
  have atj : j < δ.length → (σ.set j (some v))[j]? = some (some v) := fun q => List.getElem?_set_self (by rw [x.len]; exact q)
  have ate : ∀ {i : Nat}, i ≠ j → (σ.set j (some v))[i]? = σ[i]? := fun q => List.getElem?_set_ne fun z => q z.symm
  refine ⟨by simp [x.len], fun i t e => ?_, fun i k t t' w w' hik e e' q q' l hl hl' => ?_⟩
  · rcases set_key e with ⟨rfl, q, hl⟩ | ⟨hne, q⟩
    · cases q
      exact ⟨v, atj hl, h⟩
    · obtain ⟨w, w1, w2⟩ := x.at_ i t q
      exact ⟨w, (ate hne).trans w1, w2.at g (fun l hl => (hh i t w hne q w1 l hl).1) fun l hl => (hh i t w hne q w1 l hl).2⟩
  · rcases set_key e with ⟨rfl, z, hl0⟩ | ⟨hne, z⟩
    · cases z
      rw [atj hl0] at q
      cases q
      rcases set_key e' with ⟨rfl, _, _⟩ | ⟨hne', z'⟩
      · exact absurd rfl hik
      · rw [ate hne'] at q'
        exact hs k t' w' hne' z' q' l hl' hl
    · rw [ate hne] at q
      rcases set_key e' with ⟨rfl, z', hl0'⟩ | ⟨hne', z'⟩
      · cases z'
        rw [atj hl0'] at q'
        cases q'
        exact hs i t w hne z q l hl hl'
      · rw [ate hne'] at q'
        exact x.ne i k t t' w w' hik z z' q q' l hl hl'
/-- the others keep what they own where nothing is lost -/
theorem Sl.keep (x : Sl K O G H σ δ) {i : Nat} {s' : Sd} {w : V} (e : δ[i]? = some (some s')) (q : σ[i]? = some (some w)) : ∀ l ∈ s'.fp w, (∃ o, H l = some o) ∧ G l = none := by
  obtain ⟨w', w1, w2⟩ := x.at_ i s' e
  rw [q] at w1
  cases w1
  exact w2.foot
theorem fp_sh (d : Dt) (v : V) : Sd.fp v (.sh d) = [] := by cases v <;> rfl
/-- a slot is set to a frozen datum -/
theorem Sl.set (x : Sl K O G H σ δ) (j : Nat) {d : Dt} (h : Rp K G v d) : Sl K O G H (σ.set j (some v)) (δ.set j (some (.sh d))) :=
  x.put j (s := .sh d) h (Same.refl _) (fun i s' w _ e q l hl => ⟨fun o z => z, (x.keep e q l hl).2⟩) fun i s' w _ e q l _ => by rw [fp_sh]; exact fun z => nomatch z
/-- less is known -/
theorem Sl.forget (x : Sl K O G H σ δ) (j : Nat) : Sl K O G H σ (δ.set j none) := by
  have key : ∀ (i : Nat) (s : Sd), (δ.set j none)[i]? = some (some s) → δ[i]? = some (some s) := fun i s e => by
    rcases set_key e with ⟨_, q, _⟩ | ⟨_, q⟩
    · cases q
    · exact q
  exact ⟨by simp [x.len], fun i s e => x.at_ i s (key i s e), fun i k s s' v v' hij e e' => x.ne i k s s' v v' hij (key i s e) (key k s' e')⟩
/-- other slots, as many, that hold the same where something is known -/
theorem Sl.re (x : Sl K O G H σ δ) {σ' : St} (hl : σ'.length = σ.length) (h : ∀ (i : Nat) (v : V) (s : Sd), δ[i]? = some (some s) → σ[i]? = some (some v) → σ'[i]? = some (some v)) : Sl K O G H σ' δ :=
  ⟨hl.trans x.len, fun i s e => by
    obtain ⟨v, h1, h2⟩ := x.at_ i s e
    exact ⟨v, h i v s e h1, h2⟩, fun i j s s' v v' hij e e' q q' => by
    obtain ⟨w, h1, _⟩ := x.at_ i s e
    obtain ⟨w', h1', _⟩ := x.at_ j s' e'
    rw [h i w s e h1] at q
    rw [h j w' s' e' h1'] at q'
    exact x.ne i j s s' v v' hij e e' (h1.trans q) (h1'.trans q')⟩
/-- a list of one's own is frozen -/
theorem Sl.freeze (x : Sl K O G H σ δ) {i : Nat} {ds : List Dt} (e : δ[i]? = some (some (.mu ds))) : ∃ l xs, H l = some (.lst xs) ∧ G l = none ∧ O.H0 l = none ∧ Same G (upd G l (.lst xs)) ∧ Sl K O (upd G l (.lst xs)) H σ (δ.set i (some (.sh (.lst ds)))) := by
  obtain ⟨v, h1, l, xs, rfl, h2, h3, h4, h5⟩ := x.at_ i _ e
  have g : Same G (upd G l (.lst xs)) := fun b o q => by rw [upd_ne (ne_of_none q h4)]; exact q
  refine ⟨l, xs, h2, h4, h5, g, ?_⟩
  have hil : i < σ.length := (List.getElem?_eq_some_iff.mp h1).1
  have es : σ = σ.set i (some (.ref l)) := by
    refine List.ext_getElem? fun k => ?_
    by_cases hk : i = k
    · subst hk
      rw [List.getElem?_set_self hil, h1]
    · rw [List.getElem?_set_ne hk]
  rw [es]
  refine x.put i (s := .sh (.lst ds)) (.lst upd_same (h3.mono g)) g (fun k s' w hk q hw l' hl' => ⟨fun o z => z, ?_⟩) fun k s' w _ _ _ l' _ => by rw [fp_sh]; exact fun z => nomatch z
  have hne : l' ≠ l := fun z => by
    subst z
    exact x.ne k i s' _ w _ hk q e hw h1 l' hl' (List.mem_cons_self ..)
  rw [upd_ne hne]
  exact (x.keep q hw l' hl').2
end

/-! ### expressions -/
def tD (K : PySem.W.Frag) (δ : De) (d : Dt) : TE := fun σ H Q => ∃ (O : Og) (G : Hp), Same G H ∧ Sl K O G H σ δ ∧ ∀ v G' H', Fr [] G H G' H' → Rp K G' v d → Q v H'
def tDT (K : PySem.W.Frag) (δ : De) (b : Bool) : TT := fun σ H Q => ∃ (O : Og) (G : Hp), Same G H ∧ Sl K O G H σ δ ∧ ∀ G' H', Fr [] G H G' H' → Q b H'
def tDA (K : PySem.W.Frag) (δ : De) (ds : List Dt) : TA := fun σ H Q => ∃ (O : Og) (G : Hp), Same G H ∧ Sl K O G H σ δ ∧ ∀ vs G' H', Fr [] G H G' H' → RpL K G' vs ds → Q vs H'
/-- under the slots δ the expression gives d -/
abbrev ED (X : Cx) (δ : De) (e : Expr) (d : Dt) : Prop := PE X e (tD X.K δ d)
abbrev ET (X : Cx) (δ : De) (e : Expr) (b : Bool) : Prop := PT X e (tDT X.K δ b)
abbrev EW (X : Cx) (δ : De) (e : Expr) (b : Bool) : Prop := PW X e (tDT X.K δ b)
abbrev EA (X : Cx) (δ : De) (es : List Expr) (ds : List Dt) : Prop := PA X es (tDA X.K δ ds)
theorem PE.imp {X : Cx} {e : Expr} {t t' : TE} (h : PE X e t) (k : ∀ σ H Q, t' σ H Q → t σ H Q) : PE X e t' := ⟨fun pins s σ H Q I q => h.run pins s σ H Q I (k σ H Q q)⟩
theorem PT.imp {X : Cx} {e : Expr} {t t' : TT} (h : PT X e t) (k : ∀ σ H Q, t' σ H Q → t σ H Q) : PT X e t' := ⟨fun pins s σ H Q I q => h.run pins s σ H Q I (k σ H Q q)⟩
theorem PW.imp {X : Cx} {e : Expr} {t t' : TT} (h : PW X e t) (k : ∀ σ H Q, t' σ H Q → t σ H Q) : PW X e t' := ⟨fun wh pins s σ H Q I q => h.run wh pins s σ H Q I (k σ H Q q)⟩
theorem PA.imp {X : Cx} {e : List Expr} {t t' : TA} (h : PA X e t) (k : ∀ σ H Q, t' σ H Q → t σ H Q) : PA X e t' := ⟨fun pos pins s σ H Q I q => h.run pos pins s σ H Q I (k σ H Q q)⟩
theorem PE.ex {X : Cx} {e : Expr} {ι : Sort _} {t : ι → TE} (h : ∀ i, PE X e (t i)) : PE X e (fun σ H Q => ∃ i, t i σ H Q) := ⟨fun pins s σ H Q I ⟨i, q⟩ => (h i).run pins s σ H Q I q⟩
theorem PT.ex {X : Cx} {e : Expr} {ι : Sort _} {t : ι → TT} (h : ∀ i, PT X e (t i)) : PT X e (fun σ H Q => ∃ i, t i σ H Q) := ⟨fun pins s σ H Q I ⟨i, q⟩ => (h i).run pins s σ H Q I q⟩
/-- an operation on data, a call on data: the readings -/
def rD (K : PySem.W.Frag) (da db d : Dt) : R2 := fun x y H Q => ∃ G, Same G H ∧ Rp K G x da ∧ Rp K G y db ∧ ∀ v G' H', Fr [] G H G' H' → Rp K G' v d → Q v H'
def rD1 (K : PySem.W.Frag) (da d : Dt) : V → Hp → VK → Prop := fun x H Q => ∃ G, Same G H ∧ Rp K G x da ∧ ∀ v G' H', Fr [] G H G' H' → Rp K G' v d → Q v H'
def rDs (K : PySem.W.Frag) (ds : List Dt) (d : Dt) : List V → Hp → VK → Prop := fun xs H Q => ∃ G, Same G H ∧ RpL K G xs ds ∧ ∀ v G' H', Fr [] G H G' H' → Rp K G' v d → Q v H'
abbrev OpD (X : Cx) (f : Value → Value → Sem Value) (da db d : Dt) : Prop := OpR X f (rD X.K da db d)
abbrev UnD (X : Cx) (f : Value → Sem Value) (da d : Dt) : Prop := UnR X f (rD1 X.K da d)
abbrev ClD (X : Cx) (f : Value) (ds : List Dt) (d : Dt) : Prop := CallR X f (rDs X.K ds d)
theorem OpR.imp {X : Cx} {f : Value → Value → Sem Value} {r r' : R2} (h : OpR X f r) (k : ∀ x y H Q, r' x y H Q → r x y H Q) : OpR X f r' := fun pins s σ H x y v u Q I rx ry q => h pins s σ H x y v u Q I rx ry (k x y H Q q)
theorem UnR.imp {X : Cx} {f : Value → Sem Value} {r r' : V → Hp → VK → Prop} (h : UnR X f r) (k : ∀ x H Q, r' x H Q → r x H Q) : UnR X f r' := fun pins s σ H x v Q I rx q => h pins s σ H x v Q I rx (k x H Q q)
theorem CallR.imp {X : Cx} {f : Value} {r r' : List V → Hp → VK → Prop} (h : CallR X f r) (k : ∀ x H Q, r' x H Q → r x H Q) : CallR X f r' := fun pins s σ H x v Q I rx q => h pins s σ H x v Q I rx (k x H Q q)
/-- the same operation, knowing that the heap is held -/
theorem OpR.inv {X : Cx} {f : Value → Value → Sem Value} {r : R2} {P : V → V → Hp → Prop} (h : OpR X f r) (r' : R2)
    (k : ∀ pins s σ H x y Q, Inv X pins σ H s → r' x y H Q → r x y H Q) : OpR X f r' := fun pins s σ H x y v u Q I rx ry q => h pins s σ H x y v u Q I rx ry (k pins s σ H x y Q I q)
end AL
end
/-! AL2 -/
section
set_option Elab.async false
set_option linter.all false
set_option maxRecDepth 100000
set_option maxHeartbeats 4000000
namespace AL
open PySem L2

section
variable {X : Cx} {δ : De} {e a b c : Expr} {d da db dc : Dt} {pos pos' : Pos}
/-! ### names, constants -/
theorem ed_var (i : Nat) {x : Str} (h : δ[i]? = some (some (.sh d)) := by rfl) (hN : X.N[i]? = some x := by rfl) (hv : Vis X.env.scope x := by first | exact Or.inl rfl | exact Or.inr (Or.inl rfl) | exact Or.inr (Or.inr rfl)) (hd : (x == ("__debug__" : Str)) = false := by decide)
    (hcd : (x == ("__classdict__" : Str)) = false := by decide) : ED X δ (.Name x pos) d :=
  PE.imp (pv i hN hv hd hcd) fun σ H Q ⟨O, G, e, s, k⟩ => by
    obtain ⟨v, hv, r⟩ := s.sh h
    exact ⟨v, hv, k v G H (Fr.refl e) r⟩
theorem ed_c {v : V} (h : PE X e (tC v)) (r : ∀ G, Rp X.K G v d) : ED X δ e d := PE.imp h fun σ H Q ⟨O, G, e, s, k⟩ => k v G H (Fr.refl e) (r G)
theorem ed_int {i : Int} {j} : ED X δ (.Constant (.int i) j pos) (.int i) := ed_c pe_int fun _ => .int i
theorem ed_bl {i : Bool} {j} : ED X δ (.Constant (.bool i) j pos) (.bl i) := ed_c pe_bl fun _ => .bl i
theorem ed_non {j} : ED X δ (.Constant .none j pos) .non := ed_c pe_non fun _ => .non
theorem ed_str {i : Str} {j} : ED X δ (.Constant (.str i) j pos) (.str i) := ed_c pe_str fun _ => .str i
theorem ed_gs {x z : Str} (h : ∃ t, X.mg x = some (.str z t)) (hg : Gl X x := by rfl) (hd : (x == ("__debug__" : Str)) = false := by decide) : ED X δ (.Name x pos) (.str z) := by
  obtain ⟨t, h⟩ := h
  exact ed_c (pe_glob (v := .str z) hg h ⟨t, rfl⟩ hd) fun _ => .str z
theorem ed_gi {x : Str} {z : Int} (h : ∃ t, X.mg x = some (.int z t)) (hg : Gl X x := by rfl) (hd : (x == ("__debug__" : Str)) = false := by decide) : ED X δ (.Name x pos) (.int z) := by
  obtain ⟨t, h⟩ := h
  exact ed_c (pe_glob (v := .int z) hg h ⟨t, rfl⟩ hd) fun _ => .int z
theorem ed_ga {x : Str} {z : Addr} (h : X.mg x = some (.ref z)) (hg : Gl X x := by rfl) (hd : (x == ("__debug__" : Str)) = false := by decide) : ED X δ (.Name x pos) (.adr z) :=
  ed_c (pe_glob (v := .ref z) hg h rfl hd) fun _ => .adr z
theorem ed_gt {x : Str} {n : String} (h : X.mg x = none) (hv : bootBuiltins x = some (.type n) := by decide +kernel) (hg : Gl X x := by rfl) (hn : x ≠ "__name__" := by decide) (hd : (x == ("__debug__" : Str)) = false := by decide) : ED X δ (.Name x pos) (.ty n) :=
  ed_c (pe_bltn (v := .ty n) hg h hv rfl hn hd) fun _ => .ty n

/-! ### operators -/
theorem ed_op {op : Operator} (ha : ED X δ a da) (hb : ED X δ b db) (ho : OpD X (binaryOp op) da db d) : ED X δ (.BinOp a op b pos) d :=
  PE.imp (pe_op ho ha hb) fun σ H Q ⟨O, G, e, s, k⟩ => ⟨O, G, e, s, fun v G1 H1 f1 r1 => ⟨O, G1, f1.s, s.mono f1, fun w G2 H2 f2 r2 => ⟨G2, f2.s, r1.mono f2.g, r2, fun z G3 H3 f3 r3 => k z G3 H3 ((f1.trans f2).trans f3) r3⟩⟩⟩
theorem ed_un {op : UnaryOp} (ha : ED X δ a da) (ho : UnD X (unaryOp op) da d) : ED X δ (.UnaryOp op a pos) d :=
  PE.imp (pe_un ho ha) fun σ H Q ⟨O, G, e, s, k⟩ => ⟨O, G, e, s, fun v G1 H1 f1 r1 => ⟨G1, f1.s, r1, fun z G3 H3 f3 r3 => k z G3 H3 (f1.trans f3) r3⟩⟩
theorem ed_cmp {op : CmpOp} (ha : ED X δ a da) (hb : ED X δ b db) (ho : OpD X (compareOp op) da db d) (hm : behindInMarks op b = false := by first | exact nomark _ | rfl) : ED X δ (.Compare a [op] [b] pos) d :=
  PE.imp (pe_cmpR ho ha hb hm) fun σ H Q ⟨O, G, e, s, k⟩ => ⟨O, G, e, s, fun v G1 H1 f1 r1 => ⟨O, G1, f1.s, s.mono f1, fun w G2 H2 f2 r2 => ⟨G2, f2.s, r1.mono f2.g, r2, fun z G3 H3 f3 r3 => k z G3 H3 ((f1.trans f2).trans f3) r3⟩⟩⟩
theorem et_cmp {op : CmpOp} {k : Bool} (ha : ED X δ a da) (hb : ED X δ b db) (ho : OpD X (compareOp op) da db (.bl k)) (hm : behindInMarks op b = false := by first | exact nomark _ | rfl) : ET X δ (.Compare a [op] [b] pos) k :=
  PT.imp (pt_cmpR ho ha hb hm) fun σ H Q ⟨O, G, e, s, q⟩ => ⟨O, G, e, s, fun v G1 H1 f1 r1 => ⟨O, G1, f1.s, s.mono f1, fun w G2 H2 f2 r2 => ⟨G2, f2.s, r1.mono f2.g, r2, fun z G3 H3 f3 r3 => by
    cases r3
    exact ⟨_, rfl, q G3 H3 ((f1.trans f2).trans f3)⟩⟩⟩⟩
/-- a < b < c: the second is asked if the first holds -/
theorem ed_chain {op op' : CmpOp} {k k' : Bool} (ha : ED X δ a da) (hb : ED X δ b db) (hc : ED X δ c dc) (ho : OpD X (compareOp op) da db (.bl k)) (ho' : OpD X (compareOp op') db dc (.bl k'))
    (hm : lastMarks [op, op'] [b, c] = false := by with_unfolding_all rfl) : ED X δ (.Compare a [op, op'] [b, c] pos) (.bl (k && k')) :=
  PE.imp (pe_chain ho ho' ha hb hc hm) fun σ H Q ⟨O, G, e, s, q⟩ => ⟨O, G, e, s, fun v G1 H1 f1 r1 => ⟨O, G1, f1.s, s.mono f1, fun w G2 H2 f2 r2 => ⟨G2, f2.s, r1.mono f2.g, r2, fun z G3 H3 f3 r3 => by
    cases r3
    refine ⟨_, rfl, ?_⟩
    cases k with
    | false => exact q _ G3 H3 ((f1.trans f2).trans f3) (.bl _)
    | true => exact ⟨O, G3, f3.s, ((s.mono f1).mono f2).mono f3, fun y G4 H4 f4 r4 => ⟨G4, f4.s, r2.mono (f3.g.trans f4.g), r4, fun z' G5 H5 f5 r5 => q z' G5 H5 ((((f1.trans f2).trans f3).trans f4).trans f5) r5⟩⟩⟩⟩⟩
theorem et_chain {op op' : CmpOp} {k k' : Bool} (ha : ED X δ a da) (hb : ED X δ b db) (hc : ED X δ c dc) (ho : OpD X (compareOp op) da db (.bl k)) (ho' : OpD X (compareOp op') db dc (.bl k'))
    (hm : lastMarks [op, op'] [b, c] = false := by with_unfolding_all rfl) : ET X δ (.Compare a [op, op'] [b, c] pos) (k && k') :=
  PT.imp (pt_chain ho ho' ha hb hc hm) fun σ H Q ⟨O, G, e, s, q⟩ => ⟨O, G, e, s, fun v G1 H1 f1 r1 => ⟨O, G1, f1.s, s.mono f1, fun w G2 H2 f2 r2 => ⟨G2, f2.s, r1.mono f2.g, r2, fun z G3 H3 f3 r3 => by
    cases r3
    refine ⟨_, rfl, ?_⟩
    cases k with
    | false => exact ⟨_, rfl, q G3 H3 ((f1.trans f2).trans f3)⟩
    | true => exact ⟨O, G3, f3.s, ((s.mono f1).mono f2).mono f3, fun y G4 H4 f4 r4 => ⟨G4, f4.s, r2.mono (f3.g.trans f4.g), r4, fun z' G5 H5 f5 r5 => by
      cases r5
      exact ⟨_, rfl, q G5 H5 ((((f1.trans f2).trans f3).trans f4).trans f5)⟩⟩⟩⟩⟩⟩

/-! ### and, or, not, if -/
theorem ed_one {op} (h : ED X δ a d) : ED X δ (.BoolOp op [a] pos) d := pe_one h
theorem ed_and {k k' : Bool} {rest : List Expr} (ha : ED X δ a (.bl k)) (hb : k = true → ED X δ (.BoolOp .And (b :: rest) pos) (.bl k')) : ED X δ (.BoolOp .And (a :: b :: rest) pos) (.bl (k && k')) := by
  cases k with
  | true => exact PE.imp (pe_and ha (hb rfl)) fun σ H Q ⟨O, G, e, s, q⟩ => ⟨O, G, e, s, fun v G1 H1 f1 r1 => by
      cases r1
      exact ⟨_, rfl, iteT ⟨O, G1, f1.s, s.mono f1, fun w G2 H2 f2 r2 => q w G2 H2 (f1.trans f2) r2⟩⟩⟩
  | false => exact PE.imp (pe_and ha (tb := fun _ _ _ => False) ⟨fun _ _ _ _ _ _ z => z.elim⟩) fun σ H Q ⟨O, G, e, s, q⟩ => ⟨O, G, e, s, fun v G1 H1 f1 r1 => by
      cases r1
      exact ⟨_, rfl, iteF (q _ G1 H1 f1 (.bl _))⟩⟩
theorem ed_or {k k' : Bool} {rest : List Expr} (ha : ED X δ a (.bl k)) (hb : k = false → ED X δ (.BoolOp .Or (b :: rest) pos) (.bl k')) : ED X δ (.BoolOp .Or (a :: b :: rest) pos) (.bl (k || k')) := by
  cases k with
  | false => exact PE.imp (pe_or ha (hb rfl)) fun σ H Q ⟨O, G, e, s, q⟩ => ⟨O, G, e, s, fun v G1 H1 f1 r1 => by
      cases r1
      exact ⟨_, rfl, iteF ⟨O, G1, f1.s, s.mono f1, fun w G2 H2 f2 r2 => q w G2 H2 (f1.trans f2) r2⟩⟩⟩
  | true => exact PE.imp (pe_or ha (tb := fun _ _ _ => False) ⟨fun _ _ _ _ _ _ z => z.elim⟩) fun σ H Q ⟨O, G, e, s, q⟩ => ⟨O, G, e, s, fun v G1 H1 f1 r1 => by
      cases r1
      exact ⟨_, rfl, iteT (q _ G1 H1 f1 (.bl _))⟩⟩
theorem ed_not {k : Bool} (ha : ED X δ a (.bl k)) : ED X δ (.UnaryOp .Not a pos) (.bl (!k)) :=
  PE.imp (pe_not ha) fun σ H Q ⟨O, G, e, s, q⟩ => ⟨O, G, e, s, fun v G1 H1 f1 r1 => by
    cases r1
    exact ⟨_, rfl, q _ G1 H1 f1 (.bl _)⟩⟩
theorem et_val {k : Bool} (ha : ED X δ a (.bl k)) (he : ∀ whole, isTrue a X.env whole = (do let v ← whole; standAt a.pos; holding [v] (truthy v)) := by intro _; rfl) : ET X δ a k :=
  PT.imp (pt_val ha he) fun σ H Q ⟨O, G, e, s, q⟩ => ⟨O, G, e, s, fun v G1 H1 f1 r1 => by
    cases r1
    exact ⟨_, rfl, q G1 H1 f1⟩⟩
theorem et_not {k : Bool} (ha : ET X δ a k) : ET X δ (.UnaryOp .Not a pos) (!k) := PT.imp (pt_not ha) fun σ H Q ⟨O, G, e, s, q⟩ => ⟨O, G, e, s, fun G1 H1 f1 => q G1 H1 f1⟩
theorem ew_and1 {k : Bool} (ha : ET X δ a k) : EW X δ (.BoolOp .And [a] pos) k := pw_and1 ha
theorem ew_or1 {k : Bool} (ha : ET X δ a k) : EW X δ (.BoolOp .Or [a] pos) k := pw_or1 ha
theorem ew_and {k k' : Bool} {rest : List Expr} (ha : ET X δ a k) (hb : k = true → EW X δ (.BoolOp .And (b :: rest) pos) k') : EW X δ (.BoolOp .And (a :: b :: rest) pos) (k && k') := by
  cases k with
  | true => exact PW.imp (pw_and ha (hb rfl)) fun σ H Q ⟨O, G, e, s, q⟩ => ⟨O, G, e, s, fun G1 H1 f1 => iteT ⟨O, G1, f1.s, s.mono f1, fun G2 H2 f2 => q G2 H2 (f1.trans f2)⟩⟩
  | false => exact PW.imp (pw_and ha (tB' := fun _ _ _ => False) ⟨fun _ _ _ _ _ _ _ z => z.elim⟩) fun σ H Q ⟨O, G, e, s, q⟩ => ⟨O, G, e, s, fun G1 H1 f1 => iteF (q G1 H1 f1)⟩
theorem ew_or {k k' : Bool} {rest : List Expr} (ha : ET X δ a k) (hb : k = false → EW X δ (.BoolOp .Or (b :: rest) pos) k') : EW X δ (.BoolOp .Or (a :: b :: rest) pos) (k || k') := by
  cases k with
  | false => exact PW.imp (pw_or ha (hb rfl)) fun σ H Q ⟨O, G, e, s, q⟩ => ⟨O, G, e, s, fun G1 H1 f1 => iteF ⟨O, G1, f1.s, s.mono f1, fun G2 H2 f2 => q G2 H2 (f1.trans f2)⟩⟩
  | true => exact PW.imp (pw_or ha (tB' := fun _ _ _ => False) ⟨fun _ _ _ _ _ _ _ z => z.elim⟩) fun σ H Q ⟨O, G, e, s, q⟩ => ⟨O, G, e, s, fun G1 H1 f1 => iteT (q G1 H1 f1)⟩
theorem et_w {k : Bool} (h : EW X δ a k) : ET X δ a k := PW.pt h
theorem ed_if {k : Bool} (hc : ET X δ c k) (ha : k = true → ED X δ a d) (hb : k = false → ED X δ b d) : ED X δ (.IfExp c a b pos) d := by
  cases k with
  | true => exact PE.imp (pe_ifExp hc (ha rfl) (tb := fun _ _ _ => False) ⟨fun _ _ _ _ _ _ z => z.elim⟩) fun σ H Q ⟨O, G, e, s, q⟩ => ⟨O, G, e, s, fun G1 H1 f1 => iteT ⟨O, G1, f1.s, s.mono f1, fun w G2 H2 f2 r2 => q w G2 H2 (f1.trans f2) r2⟩⟩
  | false => exact PE.imp (pe_ifExp hc (ta := fun _ _ _ => False) ⟨fun _ _ _ _ _ _ z => z.elim⟩ (hb rfl)) fun σ H Q ⟨O, G, e, s, q⟩ => ⟨O, G, e, s, fun G1 H1 f1 => iteF ⟨O, G1, f1.s, s.mono f1, fun w G2 H2 f2 r2 => q w G2 H2 (f1.trans f2) r2⟩⟩
theorem ed_ifT (hc : ET X δ c true) (ha : ED X δ a d) : ED X δ (.IfExp c a b pos) d := ed_if hc (fun _ => ha) fun z => nomatch z
theorem ed_ifF (hc : ET X δ c false) (hb : ED X δ b d) : ED X δ (.IfExp c a b pos) d := ed_if hc (fun z => nomatch z) fun _ => hb
theorem ed_is {d' : Dt} (h : ED X δ e d) (q : d = d') : ED X δ e d' := q ▸ h
theorem et_is {k k' : Bool} (h : ET X δ e k) (q : k = k') : ET X δ e k' := q ▸ h

/-! ### arguments, displays -/
theorem ea_nil : EA X δ [] [] := PA.imp pa_nil fun σ H Q ⟨O, G, e, s, q⟩ => q [] G H (Fr.refl e) .nil
theorem ea_cons {es : List Expr} {ds : List Dt} (h : ED X δ e d) (hr : EA X δ es ds) (hs : starEach (e :: es) X.env = (false, eval e X.env) :: starEach es X.env := by rfl) : EA X δ (e :: es) (d :: ds) :=
  PA.imp (pa_cons h hr hs) fun σ H Q ⟨O, G, e, s, q⟩ => ⟨O, G, e, s, fun v G1 H1 f1 r1 => ⟨O, G1, f1.s, s.mono f1, fun vs G2 H2 f2 r2 => q _ G2 H2 (f1.trans f2) (.cons (r1.mono f2.g) r2)⟩⟩
theorem ed_tup {es : List Expr} {ds : List Dt} {x1} (h : EA X δ es ds) (hz : ds.length ≤ 1000 := by first | decide | exact Nat.le_of_ble_eq_true rfl) : ED X δ (.Tuple es x1 pos) (.tup ds) :=
  PE.imp (pe_tup h) fun σ H Q ⟨O, G, e, s, q⟩ => ⟨O, G, e, s, fun vs G1 H1 f1 r1 => ⟨by rw [r1.length]; exact Nat.le_of_lt (small1000 hz), fun p hp => by
    have f2 := Fr.new (W := []) (o := .tup vs) f1.s hp
    exact q _ _ _ (f1.trans f2) (.tup upd_same (r1.mono f2.g))⟩⟩
theorem ed_lst {es : List Expr} {ds : List Dt} (h : EA X δ es ds) (hz : ds.length ≤ 1000 := by first | decide | exact Nat.le_of_ble_eq_true rfl) : ED X δ (.List es pos) (.lst ds) :=
  PE.imp (pe_lst h) fun σ H Q ⟨O, G, e, s, q⟩ => ⟨O, G, e, s, fun vs G1 H1 f1 r1 => ⟨by rw [r1.length]; exact Nat.le_of_lt (small1000 hz), fun p hp => by
    have f2 := Fr.new (W := []) (o := .lst vs) f1.s hp
    exact q _ _ _ (f1.trans f2) (.lst upd_same (r1.mono f2.g))⟩⟩
end

/-! ### operations on data -/
section
variable {X : Cx} {f : Value → Value → Sem Value}
theorem opd_I0 {g : Int → Int → Int} {i j : Int} (h : OpR X f (rI0 fun i j => .int (g i j))) : OpD X f (.int i) (.int j) (.int (g i j)) := AL.OpR.imp h fun x y H Q ⟨G, e, rx, ry, k⟩ => by
  cases rx; cases ry
  exact ⟨i, j, rfl, rfl, k _ G H (Fr.refl e) (.int _)⟩
theorem opd_B0 {g : Int → Int → Bool} {i j : Int} (h : OpR X f (rI0 fun i j => .bl (g i j))) : OpD X f (.int i) (.int j) (.bl (g i j)) := AL.OpR.imp h fun x y H Q ⟨G, e, rx, ry, k⟩ => by
  cases rx; cases ry
  exact ⟨i, j, rfl, rfl, k _ G H (Fr.refl e) (.bl _)⟩
theorem opd_I {C : Int → Int → Prop} {g : Int → Int → Int} {i j : Int} (h : OpR X f (rI C fun i j => .int (g i j))) (hc : C i j) : OpD X f (.int i) (.int j) (.int (g i j)) := AL.OpR.imp h fun x y H Q ⟨G, e, rx, ry, k⟩ => by
  cases rx; cases ry
  exact ⟨i, j, rfl, rfl, hc, k _ G H (Fr.refl e) (.int _)⟩
theorem opd_add {i j : Int} : OpD X (binaryOp .Add) (.int i) (.int j) (.int (i + j)) := opd_I0 op_add
theorem opd_sub {i j : Int} : OpD X (binaryOp .Sub) (.int i) (.int j) (.int (i - j)) := opd_I0 op_sub
theorem opd_mul {i j : Int} (h : CMul i j) : OpD X (binaryOp .Mult) (.int i) (.int j) (.int (i * j)) := opd_I op_mul h
theorem opd_fdiv {i j : Int} (h : CDivN i j) : OpD X (binaryOp .FloorDiv) (.int i) (.int j) (.int (i.fdiv j)) := opd_I op_fdivN h
theorem opd_mod {i j : Int} (h : j ≠ 0) : OpD X (binaryOp .Mod) (.int i) (.int j) (.int (i.fmod j)) := opd_I op_modN h
theorem opd_pow {i j : Int} (h : CPow i j) : OpD X (binaryOp .Pow) (.int i) (.int j) (.int (i ^ j.toNat)) := opd_I op_pow h
theorem opd_lt {i j : Int} : OpD X (compareOp .Lt) (.int i) (.int j) (.bl (decide (i < j))) := opd_B0 op_lt
theorem opd_le {i j : Int} : OpD X (compareOp .LtE) (.int i) (.int j) (.bl (decide (i ≤ j))) := opd_B0 op_le
theorem opd_gt {i j : Int} : OpD X (compareOp .Gt) (.int i) (.int j) (.bl (decide (j < i))) := opd_B0 op_gt
theorem opd_ge {i j : Int} : OpD X (compareOp .GtE) (.int i) (.int j) (.bl (decide (j ≤ i))) := opd_B0 op_ge
theorem opd_eq {i j : Int} : OpD X (compareOp .Eq) (.int i) (.int j) (.bl (decide (i = j))) := AL.OpR.imp op_eq fun x y H Q ⟨G, e, rx, ry, k⟩ => by
  cases rx; cases ry
  refine ⟨rfl, k _ G H (Fr.refl e) ?_⟩
  rw [show decide (V.int i = V.int j) = decide (i = j) by simp]
  exact .bl _
theorem opd_ne {i j : Int} : OpD X (compareOp .NotEq) (.int i) (.int j) (.bl (!decide (i = j))) := AL.OpR.imp op_ne fun x y H Q ⟨G, e, rx, ry, k⟩ => by
  cases rx; cases ry
  refine ⟨rfl, k _ G H (Fr.refl e) ?_⟩
  rw [show decide (V.int i = V.int j) = decide (i = j) by simp]
  exact .bl _
theorem opd_eqS {i j : Str} : OpD X (compareOp .Eq) (.str i) (.str j) (.bl (decide (i = j))) := AL.OpR.imp op_eq fun x y H Q ⟨G, e, rx, ry, k⟩ => by
  cases rx; cases ry
  refine ⟨rfl, k _ G H (Fr.refl e) ?_⟩
  rw [show decide (V.str i = V.str j) = decide (i = j) by simp]
  exact .bl _
theorem opd_neS {i j : Str} : OpD X (compareOp .NotEq) (.str i) (.str j) (.bl (!decide (i = j))) := AL.OpR.imp op_ne fun x y H Q ⟨G, e, rx, ry, k⟩ => by
  cases rx; cases ry
  refine ⟨rfl, k _ G H (Fr.refl e) ?_⟩
  rw [show decide (V.str i = V.str j) = decide (i = j) by simp]
  exact .bl _
/-- is None, is not None -/
def Dt.isNon : Dt → Bool
  | .non => true
  | _ => false
theorem Rp.dec_non {K : PySem.W.Frag} {G : Hp} {v : V} {d : Dt} (h : Rp K G v d) : decide (v = .non) = d.isNon := by cases h <;> simp [Dt.isNon]
theorem opd_isN {d : Dt} : OpD X (compareOp .Is) d .non (.bl d.isNon) := AL.OpR.imp op_isN fun x y H Q ⟨G, e, rx, ry, k⟩ => by
  cases ry
  refine ⟨rfl, k _ G H (Fr.refl e) ?_⟩
  rw [rx.dec_non]
  exact .bl _
theorem opd_notN {d : Dt} : OpD X (compareOp .IsNot) d .non (.bl (!d.isNon)) := AL.OpR.imp op_notN fun x y H Q ⟨G, e, rx, ry, k⟩ => by
  cases ry
  refine ⟨rfl, k _ G H (Fr.refl e) ?_⟩
  rw [rx.dec_non]
  exact .bl _
theorem opd_addS {i j : Str} (h : i.length + j.length ≤ sizeLine) : OpD X (binaryOp .Add) (.str i) (.str j) (.str (i ++ j)) := AL.OpR.imp op_add_str fun x y H Q ⟨G, e, rx, ry, k⟩ => by
  cases rx; cases ry
  exact ⟨i, j, rfl, rfl, h, k _ G H (Fr.refl e) (.str _)⟩
theorem und_neg {i : Int} : UnD X (unaryOp .USub) (.int i) (.int (-i)) := AL.UnR.imp un_neg fun x H Q ⟨G, e, rx, k⟩ => by
  cases rx
  exact ⟨i, rfl, k _ G H (Fr.refl e) (.int _)⟩
/-- list + list -/
theorem opd_cat {ds es : List Dt} (hz : ds.length + es.length ≤ sizeLine) : OpD X (binaryOp .Add) (.lst ds) (.lst es) (.lst (ds ++ es)) := AL.OpR.imp op_cat fun x y H Q ⟨G, e, rx, ry, k⟩ => by
  cases rx with
  | lst hx rx =>
  cases ry with
  | lst hy ry =>
  refine ⟨_, _, _, _, rfl, rfl, e _ _ hx, e _ _ hy, by rw [rx.length, ry.length]; exact hz, fun p hp => ?_⟩
  obtain ⟨f, r⟩ := new_lst (W := []) e hp (rx.append ry)
  exact k _ _ _ f r
theorem RpL.rep {K : PySem.W.Frag} {G : Hp} {xs : List V} {ds : List Dt} (h : RpL K G xs ds) : ∀ n : Nat, RpL K G (List.replicate n xs).flatten (List.replicate n ds).flatten
  | 0 => .nil
  | n + 1 => h.append (RpL.rep h n)
/-- list * int -/
theorem opd_rep {ds : List Dt} {n : Int} (h0 : -(2 ^ 63) ≤ n) (h1 : n < 2 ^ 63) (hz : ds.length * n.toNat ≤ sizeLine) : OpD X (binaryOp .Mult) (.lst ds) (.int n) (.lst (List.replicate n.toNat ds).flatten) := AL.OpR.imp op_rep fun x y H Q ⟨G, e, rx, ry, k⟩ => by
  cases rx with
  | lst hx rx =>
  cases ry
  refine ⟨_, _, _, rfl, rfl, e _ _ hx, h0, h1, by rw [rx.length]; exact hz, fun p hp => ?_⟩
  obtain ⟨f, r⟩ := new_lst (W := []) e hp (rx.rep n.toNat)
  exact k _ _ _ f r
/-- c in a text, c one sign -/
theorem opd_inC {c : Nat} {z : Str} : OpD X (compareOp .In) (.str ⟨#[c]⟩) (.str z) (.bl (decide (c ∈ z.cps.toList))) := AL.OpR.imp op_in_sign fun x y H Q ⟨G, e, rx, ry, k⟩ => by
  cases rx; cases ry
  exact ⟨c, z, rfl, rfl, k _ G H (Fr.refl e) (.bl _)⟩
theorem opd_notinC {c : Nat} {z : Str} : OpD X (compareOp .NotIn) (.str ⟨#[c]⟩) (.str z) (.bl (!decide (c ∈ z.cps.toList))) := AL.OpR.imp op_notIn_sign fun x y H Q ⟨G, e, rx, ry, k⟩ => by
  cases rx; cases ry
  exact ⟨c, z, rfl, rfl, k _ G H (Fr.refl e) (.bl _)⟩
theorem inV_strs {x : Str} : ∀ xs : List Str, inV (.str x) (xs.map V.str) = decide (x ∈ xs)
  | [] => by simp [inV]
  | y :: r => by
    have ih := inV_strs (x := x) r
    unfold inV at ih ⊢
    rw [List.map_cons, List.any_cons, ih]
    by_cases h : y = x
    · subst h; simp [eqV]
    · have h' : ¬ x = y := fun z => h z.symm
      simp [eqV, h, h', beq_eq_false_iff_ne.mpr h]
theorem inV_ints {x : Int} : ∀ xs : List Int, inV (.int x) (xs.map V.int) = decide (x ∈ xs)
  | [] => by simp [inV]
  | y :: r => by
    have ih := inV_ints (x := x) r
    unfold inV at ih ⊢
    rw [List.map_cons, List.any_cons, ih]
    by_cases h : y = x
    · subst h; simp [eqV]
    · have h' : ¬ x = y := fun z => h z.symm
      simp [eqV, h, h', beq_eq_false_iff_ne.mpr h]
theorem inV_non_ints : ∀ xs : List Int, inV .non (xs.map V.int) = false
  | [] => rfl
  | y :: r => by
    have ih := inV_non_ints r
    unfold inV at ih ⊢
    rw [List.map_cons, List.any_cons, ih]
    rfl
theorem flat_strs (xs : List Str) : (xs.map V.str).all flatV = true := List.all_eq_true.mpr fun v h => by
  obtain ⟨x, _, rfl⟩ := List.mem_map.mp h
  rfl
theorem flat_ints (xs : List Int) : (xs.map V.int).all flatV = true := List.all_eq_true.mpr fun v h => by
  obtain ⟨x, _, rfl⟩ := List.mem_map.mp h
  rfl
theorem opd_inS {x : Str} {xs : List Str} : OpD X (compareOp .In) (.str x) (.lst (xs.map .str)) (.bl (decide (x ∈ xs))) := AL.OpR.imp op_in_seq fun a b H Q ⟨G, e, rx, ry, k⟩ => by
  cases rx
  cases ry with
  | lst hy ry =>
  obtain rfl := ry.of_strs
  refine ⟨_, _, rfl, .inl (.of (e _ _ hy)), rfl, flat_strs xs, k _ G H (Fr.refl e) ?_⟩
  show Rp _ _ (.bl (inV _ _)) _
  rw [inV_strs]
  exact .bl _
theorem opd_inST {x : Str} {xs : List Str} : OpD X (compareOp .In) (.str x) (.tup (xs.map .str)) (.bl (decide (x ∈ xs))) := AL.OpR.imp op_in_seq fun a b H Q ⟨G, e, rx, ry, k⟩ => by
  cases rx
  cases ry with
  | tup hy ry =>
  obtain rfl := ry.of_strs
  refine ⟨_, _, rfl, .inr (.of (e _ _ hy)), rfl, flat_strs xs, k _ G H (Fr.refl e) ?_⟩
  show Rp _ _ (.bl (inV _ _)) _
  rw [inV_strs]
  exact .bl _
theorem opd_inI {x : Int} {xs : List Int} : OpD X (compareOp .In) (.int x) (.lst (xs.map .int)) (.bl (decide (x ∈ xs))) := AL.OpR.imp op_in_seq fun a b H Q ⟨G, e, rx, ry, k⟩ => by
  cases rx
  cases ry with
  | lst hy ry =>
  obtain rfl := ry.of_ints
  refine ⟨_, _, rfl, .inl (.of (e _ _ hy)), rfl, flat_ints xs, k _ G H (Fr.refl e) ?_⟩
  show Rp _ _ (.bl (inV _ _)) _
  rw [inV_ints]
  exact .bl _
theorem opd_notinIT {x : Int} {xs : List Int} : OpD X (compareOp .NotIn) (.int x) (.tup (xs.map .int)) (.bl (!decide (x ∈ xs))) := AL.OpR.imp op_notIn_seq fun a b H Q ⟨G, e, rx, ry, k⟩ => by
  cases rx
  cases ry with
  | tup hy ry =>
  obtain rfl := ry.of_ints
  refine ⟨_, _, rfl, .inr (.of (e _ _ hy)), rfl, flat_ints xs, k _ G H (Fr.refl e) ?_⟩
  show Rp _ _ (.bl (!inV _ _)) _
  rw [inV_ints]
  exact .bl _
theorem opd_inNon {xs : List Int} : OpD X (compareOp .In) .non (.lst (xs.map .int)) (.bl false) := AL.OpR.imp op_in_seq fun a b H Q ⟨G, e, rx, ry, k⟩ => by
  cases rx
  cases ry with
  | lst hy ry =>
  obtain rfl := ry.of_ints
  refine ⟨_, _, rfl, .inl (.of (e _ _ hy)), rfl, flat_ints xs, k _ G H (Fr.refl e) ?_⟩
  show Rp _ _ (.bl (inV _ _)) _
  rw [inV_non_ints]
  exact .bl _
end

/-! ### == of nested data -/
mutual
def Dt.py : Dt → Option PyData
  | .non => some .none
  | .bl b => some (.bool b)
  | .int i => some (.int i)
  | .str x => some (.str x)
  | .lst ds => (Dt.pys ds).map .list
  | .tup ds => (Dt.pys ds).map .tuple
  | _ => none
def Dt.pys : List Dt → Option (List PyData)
  | [] => some []
  | d :: ds => match Dt.py d, Dt.pys ds with
    | some p, some ps => some (p :: ps)
    | _, _ => none
end
section
variable {K : PySem.W.Frag} {G H : Hp}
mutual
theorem Rp.dp (e : Same G H) : ∀ {v : V} {d : Dt} {p : PyData}, Rp K G v d → d.py = some p → Dp K H v p
  | _, _, _, .non, h => by cases h; exact .non
  | _, _, _, .bl b, h => by cases h; exact .bl b
  | _, _, _, .int i, h => by cases h; exact .int i
  | _, _, _, .str x, h => by cases h; exact .str x
  | _, _, _, .ty n, h => by cases h
  | _, _, _, .adr a, h => by cases h
  | _, .lst ds, p, .lst hx r, h => by
    have h1 : (Dt.pys ds).map PyData.list = some p := h
    cases q : Dt.pys ds with
    | none => rw [q] at h1; cases h1
    | some ps => rw [q] at h1; cases h1; exact .lst (.of (e _ _ hx)) (RpL.dp e r q)
  | _, .tup ds, p, .tup hx r, h => by
    have h1 : (Dt.pys ds).map PyData.tuple = some p := h
    cases q : Dt.pys ds with
    | none => rw [q] at h1; cases h1
    | some ps => rw [q] at h1; cases h1; exact .tup (.of (e _ _ hx)) (RpL.dp e r q)
  | _, _, _, .ins _ _ _, h => by cases h
  | _, _, _, .dk _ _ _, h => by cases h
  | _, _, _, .dl _ _ _, h => by cases h
  | _, _, _, .te _, h => by cases h
  | _, _, _, .sc _, h => by cases h
theorem RpL.dp (e : Same G H) : ∀ {vs : List V} {ds : List Dt} {ps : List PyData}, RpL K G vs ds → Dt.pys ds = some ps → DpAll K H vs ps
  | _, _, _, .nil, h => by cases h; exact .nil
  | _, d :: ds, ps, .cons h r, q => by
    have q1 : (match Dt.py d, Dt.pys ds with
      | some p, some ps => some (p :: ps)
      | _, _ => none) = some ps := q
    cases e1 : Dt.py d with
    | none => rw [e1] at q1; cases q1
    | some p =>
      cases e2 : Dt.pys ds with
      | none => rw [e1, e2] at q1; cases q1
      | some ps' => rw [e1, e2] at q1; cases q1; exact .cons (Rp.dp e h e1) (RpL.dp e r e2)
end
end
section
variable {X : Cx} {da db : Dt} {p q : PyData}
theorem opd_eqD (hu : X.A.units + 64 < cLine) (ha : da.py = some p) (hb : db.py = some q) (sa : SeqAt.shaped p = true) (sb : SeqAt.shaped q = true) : OpD X (compareOp .Eq) da db (.bl (PyData.eqv p q)) := AL.OpR.imp (op_eqD hu) fun x y H Q ⟨G, e, rx, ry, k⟩ =>
  ⟨p, q, rx.dp e ha, ry.dp e hb, sa, sb, k _ G H (Fr.refl e) (.bl _)⟩
theorem opd_neD (hu : X.A.units + 64 < cLine) (ha : da.py = some p) (hb : db.py = some q) (sa : SeqAt.shaped p = true) (sb : SeqAt.shaped q = true) : OpD X (compareOp .NotEq) da db (.bl (!PyData.eqv p q)) := AL.OpR.imp (op_neD hu) fun x y H Q ⟨G, e, rx, ry, k⟩ =>
  ⟨p, q, rx.dp e ha, ry.dp e hb, sa, sb, k _ G H (Fr.refl e) (.bl _)⟩
end
end AL
end
/-! AL3 -/
section
set_option Elab.async false
set_option linter.all false
set_option maxRecDepth 100000
set_option maxHeartbeats 4000000
namespace AL
open PySem L2

/-! ### subscripts, slices -/
section
variable {K : PySem.W.Frag} {G : Hp}
theorem RpL.atI {xs : List V} {ds : List Dt} {i : Int} {d : Dt} (r : RpL K G xs ds) (h : L2.atI ds i = some d) : ∃ v, L2.atI xs i = some v ∧ Rp K G v d := by
  unfold L2.atI at h ⊢
  rw [r.length]
  cases e : ixN ds.length i with
  | none => rw [e] at h; cases h
  | some j =>
    rw [e] at h
    exact r.get h
/-- a slice of any list -/
def cutG {α : Type} (xs : List α) (lo hi : Option Int) : List α := (xs.drop (HT.sIx xs.length 0 lo)).take (HT.sIx xs.length xs.length hi - HT.sIx xs.length 0 lo)
theorem RpL.cut {xs : List V} {ds : List Dt} (r : RpL K G xs ds) (lo hi : Option Int) : RpL K G (cutV xs lo hi) (cutG ds lo hi) := by
  unfold cutV cutG
  rw [r.length]
  exact (r.drop _).take _
theorem cutG_to {α : Type} (xs : List α) (n : Nat) : cutG xs none (some (n : Int)) = xs.take n := by
  unfold cutG
  rw [HT.sIx_none, HT.sIx_nat]
  simp only [List.drop_zero, Nat.sub_zero]
  by_cases h : n ≤ xs.length
  · rw [Nat.min_eq_left h]
  · rw [Nat.min_eq_right (by omega), List.take_of_length_le (by omega), List.take_of_length_le (by omega)]
theorem cutG_from {α : Type} (xs : List α) (n : Nat) : cutG xs (some (n : Int)) none = xs.drop n := by
  unfold cutG
  rw [HT.sIx_none, HT.sIx_nat]
  by_cases h : n ≤ xs.length
  · rw [Nat.min_eq_left h, List.take_of_length_le (by simp)]
  · rw [Nat.min_eq_right (by omega), List.drop_of_length_le (by omega), List.drop_of_length_le (by omega)]
    simp
end
section
variable {X : Cx} {δ : De} {e a b c : Expr} {d da db dc : Dt} {pos p2 : Pos} {ds : List Dt} {i : Int}
theorem ed_ixL (ha : ED X δ a (.lst ds)) (hb : ED X δ b (.int i)) (h : L2.atI ds i = some d) (hs : PlainIx b := by exact fun _ _ => rfl) : ED X δ (.Subscript a b pos) d :=
  PE.imp (pe_ix ix_list ha hb hs) fun σ H Q ⟨O, G, e, s, k⟩ => ⟨O, G, e, s, fun v G1 H1 f1 r1 => ⟨O, G1, f1.s, s.mono f1, fun w G2 H2 f2 r2 => by
    cases r1 with
    | lst hx rx =>
    cases r2
    obtain ⟨u, h1, h2⟩ := rx.atI h
    exact ⟨_, _, _, u, rfl, rfl, .of ((f1.g.trans f2.g).trans (Same.refl _) |> fun _ => f2.s _ _ (f2.g _ _ hx)), h1, k u G2 H2 (f1.trans f2) (h2.mono f2.g)⟩⟩⟩
theorem ed_ixT (ha : ED X δ a (.tup ds)) (hb : ED X δ b (.int i)) (h : L2.atI ds i = some d) (hs : PlainIx b := by exact fun _ _ => rfl) : ED X δ (.Subscript a b pos) d :=
  PE.imp (pe_ix ix_tup ha hb hs) fun σ H Q ⟨O, G, e, s, k⟩ => ⟨O, G, e, s, fun v G1 H1 f1 r1 => ⟨O, G1, f1.s, s.mono f1, fun w G2 H2 f2 r2 => by
    cases r1 with
    | tup hx rx =>
    cases r2
    obtain ⟨u, h1, h2⟩ := rx.atI h
    exact ⟨_, _, _, u, rfl, rfl, .of (f2.s _ _ (f2.g _ _ hx)), h1, k u G2 H2 (f1.trans f2) (h2.mono f2.g)⟩⟩⟩
theorem ed_ixS {z : Str} {n : Nat} (ha : ED X δ a (.str z)) (hb : ED X δ b (.int i)) (h : L2.atI z.cps.toList i = some n) (hz : z.length ≤ sizeLine) (hs : PlainIx b := by exact fun _ _ => rfl) : ED X δ (.Subscript a b pos) (.str ⟨#[n]⟩) :=
  PE.imp (pe_ix ix_str ha hb hs) fun σ H Q ⟨O, G, e, s, k⟩ => ⟨O, G, e, s, fun v G1 H1 f1 r1 => ⟨O, G1, f1.s, s.mono f1, fun w G2 H2 f2 r2 => by
    cases r1
    cases r2
    exact ⟨z, i, n, rfl, rfl, hz, h, k _ G2 H2 (f1.trans f2) (.str _)⟩⟩⟩
/-- a part of a slice -/
def tDO (K : PySem.W.Frag) (δ : De) (o : Option Int) : TO := fun σ H Q => ∃ O G, Same G H ∧ Sl K O G H σ δ ∧ ∀ G' H', Fr [] G H G' H' → Q o H'
theorem PO.imp {X : Cx} {e : Option Expr} {t t' : TO} (h : PO X e t) (k : ∀ σ H Q, t' σ H Q → t σ H Q) : PO X e t' := ⟨fun pins s σ H Q I q => h.run pins s σ H Q I (k σ H Q q)⟩
abbrev EO (X : Cx) (δ : De) (e : Option Expr) (o : Option Int) : Prop := PO X e (tDO X.K δ o)
theorem eo_none : EO X δ none none := PO.imp po_none fun σ H Q ⟨O, G, e, s, q⟩ => q G H (Fr.refl e)
theorem eo_some (h : ED X δ e (.int i)) : EO X δ (some e) (some i) := PO.imp (po_some h) fun σ H Q ⟨O, G, e, s, q⟩ => ⟨O, G, e, s, fun v G1 H1 f1 r1 => by
  cases r1
  exact ⟨_, rfl, q G1 H1 f1⟩⟩
theorem ed_slL {lo hi : Option Expr} {l h : Option Int} (ha : ED X δ a (.lst ds)) (hl : EO X δ lo l) (hh : EO X δ hi h) : ED X δ (.Subscript a (.Slice lo hi none p2) pos) (.lst (cutG ds l h)) :=
  PE.imp (pe_slice sl_list ha hl hh) fun σ H Q ⟨O, G, e, s, k⟩ => ⟨O, G, e, s, fun v G1 H1 f1 r1 => ⟨O, G1, f1.s, s.mono f1, fun G2 H2 f2 => ⟨O, G2, f2.s, (s.mono f1).mono f2, fun G3 H3 f3 => by
    cases r1 with
    | lst hx rx =>
    refine ⟨_, _, rfl, .of (f3.s _ _ (f3.g _ _ (f2.g _ _ hx))), fun p hp => ?_⟩
    obtain ⟨f, r⟩ := new_lst (W := []) f3.s hp ((rx.cut l h).mono (f2.g.trans f3.g))
    exact k _ _ _ (((f1.trans f2).trans f3).trans f) r⟩⟩⟩
theorem ed_slS {z : Str} {lo hi : Option Expr} {l h : Option Int} (ha : ED X δ a (.str z)) (hl : EO X δ lo l) (hh : EO X δ hi h) (hz : z.length ≤ sizeLine) : ED X δ (.Subscript a (.Slice lo hi none p2) pos) (.str (cutS z l h)) :=
  PE.imp (pe_slice sl_str ha hl hh) fun σ H Q ⟨O, G, e, s, k⟩ => ⟨O, G, e, s, fun v G1 H1 f1 r1 => ⟨O, G1, f1.s, s.mono f1, fun G2 H2 f2 => ⟨O, G2, f2.s, (s.mono f1).mono f2, fun G3 H3 f3 => by
    cases r1
    exact ⟨z, rfl, hz, k _ _ _ ((f1.trans f2).trans f3) (.str _)⟩⟩⟩⟩
/-- xs[::-1] -/
theorem ed_revL {k : Nat} {p1 p3 : Pos} (ha : ED X δ a (.lst ds)) : ED X δ (.Subscript a (.Slice none none (some (.UnaryOp .USub (.Constant (.int 1) k p1) p2)) p3) pos) (.lst ds.reverse) :=
  PE.imp (pe_revL ha) fun σ H Q ⟨O, G, e, s, q⟩ => ⟨O, G, e, s, fun v G1 H1 f1 r1 => by
    cases r1 with
    | lst hx rx =>
    refine ⟨_, _, rfl, .of (f1.s _ _ hx), fun p hp => ?_⟩
    obtain ⟨f, r⟩ := new_lst (W := []) f1.s hp rx.reverse
    exact q _ _ _ (f1.trans f) r⟩

/-! ### fields -/
def fget : List Str → List Dt → Str → Option Dt
  | n :: ns, d :: ds, f => if f = n then some d else fget ns ds f
  | _, _, _ => none
theorem fget_at {K : PySem.W.Frag} {G : Hp} {f : Str} {d : Dt} : ∀ {fs : List (Str × V)} {ns : List Str} {ds : List Dt}, fs.map (·.1) = ns → RpL K G (fs.map (·.2)) ds → fget ns ds f = some d → ∃ v, fs.lookup f = some v ∧ Rp K G v d
  | [], ns, ds, e, r, h => by
    subst e
    cases r
    cases h
  | (n, v) :: fs, ns, ds, e, r, h => by
    subst e
    cases r with
    | cons r1 r2 =>
    simp only [List.map_cons, fget] at h
    by_cases q : f = n
    · subst q
      rw [if_pos rfl] at h
      cases h
      exact ⟨v, by simp [List.lookup], r1⟩
    · rw [if_neg q] at h
      obtain ⟨w, h1, h2⟩ := fget_at rfl r2 h
      refine ⟨w, ?_, h2⟩
      simp only [List.lookup]
      rw [show (f == n) = false from beq_eq_false_iff_ne.mpr q]
      exact h1
theorem ed_fld {C : Addr} {ns : List Str} {f : Str} (ha : ED X δ a (.ins C ns ds)) (c : Cls X.K C) (n : NoAttr X.K C f) (h : fget ns ds f = some d) (hb : attributeBase a f X.env (eval a X.env) = eval a X.env := by rfl) : ED X δ (.Attribute a f pos) d :=
  PE.imp (pe_fld ha hb) fun σ H Q ⟨O, G, e, s, q⟩ => ⟨O, G, e, s, fun v G1 H1 f1 r1 => by
    cases r1 with
    | ins hx hn rx =>
    obtain ⟨w, h1, h2⟩ := fget_at hn rx h
    exact ⟨_, _, _, _, w, rfl, f1.s _ _ hx, c, n, h1, q w G1 H1 f1 h2⟩⟩

/-! ### calls of built-ins -/
theorem ed_cb {id : String} {x : Str} {es : List Expr} {p : Pos} (ha : EA X δ (e :: es) ds) (hc : ClD X (.builtin id) ds d) (hm : X.mg x = none) (hv : bootBuiltins x = some (.builtin id) := by decide +kernel) (hg : Gl X x := by rfl) (hn : x ≠ "__name__" := by decide) (hdb : (x == ("__debug__" : Str)) = false := by decide)
    (he : starEach (e :: es) X.env = (false, eval e X.env) :: starEach es X.env := by rfl) (hpl : (backTo pos (starEach es X.env)).any (·.1) = false := by rfl) : ED X δ (.Call (.Name x p) (e :: es) [] pos) d :=
  PE.imp (pe_callB hc hg hm hv ha hn hdb he hpl) fun σ H Q ⟨O, G, e, s, q⟩ => ⟨O, G, e, s, fun vs G1 H1 f1 r1 => ⟨G1, f1.s, r1, fun v G2 H2 f2 r2 => q v G2 H2 (f1.trans f2) r2⟩⟩
theorem ed_ct {T : String} {x : Str} {es : List Expr} {p : Pos} (ha : EA X δ (e :: es) ds) (hc : ClD X (.type T) ds d) (hm : X.mg x = none) (hv : bootBuiltins x = some (.type T) := by decide +kernel) (hg : Gl X x := by rfl) (hn : x ≠ "__name__" := by decide) (hdb : (x == ("__debug__" : Str)) = false := by decide)
    (he : starEach (e :: es) X.env = (false, eval e X.env) :: starEach es X.env := by rfl) (hpl : (backTo pos (starEach es X.env)).any (·.1) = false := by rfl) : ED X δ (.Call (.Name x p) (e :: es) [] pos) d :=
  PE.imp (pe_callTy hc hg hm hv ha hn hdb he hpl) fun σ H Q ⟨O, G, e, s, q⟩ => ⟨O, G, e, s, fun vs G1 H1 f1 r1 => ⟨G1, f1.s, r1, fun v G2 H2 f2 r2 => q v G2 H2 (f1.trans f2) r2⟩⟩
end
section
variable {X : Cx}
theorem cld_lenL {ds : List Dt} : ClD X (.builtin "len") [.lst ds] (.int ds.length) := AL.CallR.imp call_len_seq fun vs H Q ⟨G, e, r, k⟩ => by
  cases r with
  | cons r1 r2 =>
  cases r2
  cases r1 with
  | lst hx rx =>
  refine ⟨_, _, rfl, .inl (.of (e _ _ hx)), ?_⟩
  rw [rx.length]
  exact k _ G H (Fr.refl e) (.int _)
theorem cld_lenT {ds : List Dt} : ClD X (.builtin "len") [.tup ds] (.int ds.length) := AL.CallR.imp call_len_seq fun vs H Q ⟨G, e, r, k⟩ => by
  cases r with
  | cons r1 r2 =>
  cases r2
  cases r1 with
  | tup hx rx =>
  refine ⟨_, _, rfl, .inr (.of (e _ _ hx)), ?_⟩
  rw [rx.length]
  exact k _ G H (Fr.refl e) (.int _)
theorem cld_lenS {z : Str} (hz : z.length ≤ sizeLine) : ClD X (.builtin "len") [.str z] (.int z.length) := AL.CallR.imp call_len_str fun vs H Q ⟨G, e, r, k⟩ => by
  cases r with
  | cons r1 r2 =>
  cases r2
  cases r1
  exact ⟨z, rfl, hz, k _ G H (Fr.refl e) (.int _)⟩
theorem cld_intI {i : Int} : ClD X (.type "int") [.int i] (.int i) := AL.CallR.imp call_int1 fun vs H Q ⟨G, e, r, k⟩ => by
  cases r with
  | cons r1 r2 =>
  cases r2
  cases r1
  exact .inl ⟨i, rfl, k _ G H (Fr.refl e) (.int _)⟩
theorem cld_intB {b : Bool} : ClD X (.type "int") [.bl b] (.int (if b then 1 else 0)) := AL.CallR.imp call_int1 fun vs H Q ⟨G, e, r, k⟩ => by
  cases r with
  | cons r1 r2 =>
  cases r2
  cases r1
  exact .inr ⟨b, rfl, k _ G H (Fr.refl e) (.int _)⟩
theorem cld_boolB {b : Bool} : ClD X (.type "bool") [.bl b] (.bl b) := AL.CallR.imp call_bool1 fun vs H Q ⟨G, e, r, k⟩ => by
  cases r with
  | cons r1 r2 =>
  cases r2
  cases r1
  exact .inr ⟨b, rfl, k _ G H (Fr.refl e) (.bl _)⟩
theorem cld_abs {i : Int} : ClD X (.builtin "abs") [.int i] (.int (if i < 0 then -i else i)) := AL.CallR.imp call_abs fun vs H Q ⟨G, e, r, k⟩ => by
  cases r with
  | cons r1 r2 =>
  cases r2
  cases r1
  exact ⟨i, rfl, k _ G H (Fr.refl e) (.int _)⟩
theorem cld_min2 {i j : Int} (hc : X.calm = true := by rfl) : ClD X (.builtin "min") [.int i, .int j] (.int (if j < i then j else i)) := AL.CallR.imp (call_min2 hc) fun vs H Q ⟨G, e, r, k⟩ => by
  cases r with
  | cons r1 r2 =>
  cases r2 with
  | cons r2 r3 =>
  cases r3
  cases r1
  cases r2
  exact ⟨i, j, rfl, k _ G H (Fr.refl e) (.int _)⟩
theorem cld_max2 {i j : Int} (hc : X.calm = true := by rfl) : ClD X (.builtin "max") [.int i, .int j] (.int (if j > i then j else i)) := AL.CallR.imp (call_max2 hc) fun vs H Q ⟨G, e, r, k⟩ => by
  cases r with
  | cons r1 r2 =>
  cases r2 with
  | cons r2 r3 =>
  cases r3
  cases r1
  cases r2
  exact ⟨i, j, rfl, k _ G H (Fr.refl e) (.int _)⟩
theorem cld_tupL {ds : List Dt} : ClD X (.type "tuple") [.lst ds] (.tup ds) := AL.CallR.imp call_tuple_of fun vs H Q ⟨G, e, r, k⟩ => by
  cases r with
  | cons r1 r2 =>
  cases r2
  cases r1 with
  | lst hx rx =>
  refine ⟨_, _, rfl, .inl ⟨.of (e _ _ hx), fun l hl => ?_⟩⟩
  obtain ⟨f, r⟩ := new_tup (W := []) e hl rx
  exact k _ _ _ f r
theorem cld_tupT {ds : List Dt} : ClD X (.type "tuple") [.tup ds] (.tup ds) := AL.CallR.imp call_tuple_of fun vs H Q ⟨G, e, r, k⟩ => by
  cases r with
  | cons r1 r2 =>
  cases r2
  cases r1 with
  | tup hx rx => exact ⟨_, _, rfl, .inr ⟨.of (e _ _ hx), k _ G H (Fr.refl e) (.tup hx rx)⟩⟩
theorem cld_lstL {ds : List Dt} : ClD X (.type "list") [.lst ds] (.lst ds) := AL.CallR.imp call_list_of fun vs H Q ⟨G, e, r, k⟩ => by
  cases r with
  | cons r1 r2 =>
  cases r2
  cases r1 with
  | lst hx rx =>
  refine ⟨_, _, rfl, .inl (.of (e _ _ hx)), fun l hl => ?_⟩
  obtain ⟨f, r⟩ := new_lst (W := []) e hl rx
  exact k _ _ _ f r
theorem cld_sum {ns : List Int} (hc : X.calm = true := by rfl) : ClD X (.builtin "sum") [.lst (ns.map .int)] (.int ns.sum) := AL.CallR.imp (cr_sum hc) fun vs H Q ⟨G, e, r, k⟩ => by
  cases r with
  | cons r1 r2 =>
  cases r2
  cases r1 with
  | lst hx rx =>
  obtain rfl := rx.of_ints
  exact ⟨_, ns, rfl, .of (e _ _ hx), k _ G H (Fr.refl e) (.int _)⟩
theorem cld_all {bs : List Bool} (hc : X.calm = true := by rfl) : ClD X (.builtin "all") [.lst (bs.map .bl)] (.bl (bs.all id)) := AL.CallR.imp (cr_all hc) fun vs H Q ⟨G, e, r, k⟩ => by
  cases r with
  | cons r1 r2 =>
  cases r2
  cases r1 with
  | lst hx rx =>
  obtain rfl := rx.of_bls
  exact ⟨_, bs, rfl, .of (e _ _ hx), k _ G H (Fr.refl e) (.bl _)⟩
theorem cld_any {bs : List Bool} (hc : X.calm = true := by rfl) : ClD X (.builtin "any") [.lst (bs.map .bl)] (.bl (bs.any id)) := AL.CallR.imp (cr_any hc) fun vs H Q ⟨G, e, r, k⟩ => by
  cases r with
  | cons r1 r2 =>
  cases r2
  cases r1 with
  | lst hx rx =>
  obtain rfl := rx.of_bls
  exact ⟨_, bs, rfl, .of (e _ _ hx), k _ G H (Fr.refl e) (.bl _)⟩
/-- min of a list of ints; m: the least -/
theorem cld_min {ns : List Int} {m : Int} (h1 : m ∈ ns) (h2 : ∀ y ∈ ns, m ≤ y) (hc : X.calm = true := by rfl) : ClD X (.builtin "min") [.lst (ns.map .int)] (.int m) := AL.CallR.imp (cr_min hc) fun vs H Q ⟨G, e, r, k⟩ => by
  cases r with
  | cons r1 r2 =>
  cases r2
  cases r1 with
  | lst hx rx =>
  obtain rfl := rx.of_ints
  refine ⟨_, ns, rfl, .of (e _ _ hx), List.length_pos_of_mem h1, fun m' a b => ?_⟩
  have : m' = m := Int.le_antisymm (b m h1) (h2 m' a)
  subst this
  exact k _ G H (Fr.refl e) (.int _)

/-! ### isinstance -/
def Dt.tyv : Dt → Option String
  | .non => some "NoneType"
  | .bl _ => some "bool"
  | .int _ => some "int"
  | .str _ => some "str"
  | .lst _ => some "list"
  | .tup _ => some "tuple"
  | _ => none
theorem Rp.tyx {K : PySem.W.Frag} {G H : Hp} {v : V} {d : Dt} {t : String} (e : Same G H) (r : Rp K G v d) (h : d.tyv = some t) : TyX K H v (.type t) := by
  cases r <;> cases h
  · exact .base .non
  · exact .base (.bl _)
  · exact .base (.int _)
  · exact .base (.str _)
  · rename_i hx _
    exact .base (.lst (e _ _ hx))
  · rename_i hx _
    exact .base (.tup (e _ _ hx))
theorem cld_isi {d : Dt} {t T : String} {b : Bool} (h : d.tyv = some t) (hk : kitB t T = some b) : ClD X (.builtin "isinstance") [d, .ty T] (.bl b) := AL.CallR.imp call_isi fun vs H Q ⟨G, e, r, k⟩ => by
  cases r with
  | cons r1 r2 =>
  cases r2 with
  | cons r2 r3 =>
  cases r3
  cases r2
  exact ⟨_, _, _, _, b, rfl, .ty T, r1.tyx e h, kit_ty hk, k _ G H (Fr.refl e) (.bl _)⟩
/-- isinstance(x, (list, tuple)) -/
theorem cld_isLT {d : Dt} {t : String} {b : Bool} (h : d.tyv = some t) (hk : (kitB t "list").bind (fun a => (kitB t "tuple").map fun c => a || c) = some b) : ClD X (.builtin "isinstance") [d, .tup [.ty "list", .ty "tuple"]] (.bl b) := AL.CallR.imp call_isiT fun vs H Q ⟨G, e, r, k⟩ => by
  cases r with
  | cons r1 r2 =>
  cases r2 with
  | cons r2 r3 =>
  cases r3
  cases r2 with
  | tup hx rx =>
  cases rx with
  | cons q1 q2 =>
  cases q2 with
  | cons q2 q3 =>
  cases q3
  cases q1
  cases q2
  refine ⟨_, _, _, _, [.type "list", .type "tuple"], b, rfl, e _ _ hx, .cons (.ty _) (.cons (.ty _) .nil), r1.tyx e h, ?_, k _ G H (Fr.refl e) (.bl _)⟩
  cases e1 : kitB t "list" with
  | none => rw [e1] at hk; cases hk
  | some a =>
    cases e2 : kitB t "tuple" with
    | none => rw [e1, e2] at hk; cases hk
    | some c =>
      rw [e1, e2] at hk
      have e3 : (a || c) = b := Option.some.inj hk
      refine kitAny_cons (kit_ty e1) (fun ea => ?_) (fun ea => by rw [← e3, ea]; rfl)
      refine kitAny_cons (kit_ty e2) (fun ec => ?_) (fun ec => by rw [← e3, ec, Bool.or_true])
      rw [← e3, ea, ec]
      rfl
/-- an instance of an own class against an own class -/
structure InsF (K : PySem.W.Frag) (C : Addr) : Prop where
  cl : Cls K C
  ha : PySem.W.findIn K (.ref C) "__class__" = some (some (.builtin "object.__class__"))
  hn : PySem.W.specialIn K (.builtin "object.__class__") "__get__" = some (some (.builtin "getset_descriptor.__get__"))
  htk : PySem.W.takesIn K (.builtin "object.__class__") = some true
  hm : PySem.W.mroIn K C (.type "object") = some true
theorem cld_isC {C D : Addr} {ns : List Str} {ds : List Dt} {b : Bool} (c : InsF X.K C) (hk : PySem.W.kitOne X.K (.ref C) (.ref D) = some b) : ClD X (.builtin "isinstance") [.ins C ns ds, .adr D] (.bl b) := AL.CallR.imp call_isi fun vs H Q ⟨G, e, r, k⟩ => by
  cases r with
  | cons r1 r2 =>
  cases r2 with
  | cons r2 r3 =>
  cases r3
  cases r2
  cases r1 with
  | ins hx hn rx => exact ⟨_, _, _, _, b, rfl, .own D, .base (.ins (e _ _ hx) c.cl c.ha c.hn c.htk c.hm), hk, k _ G H (Fr.refl e) (.bl _)⟩
end

/-! ### methods of built-in types -/
section
variable {X : Cx} {δ : De} {o e : Expr} {es : List Expr} {d dd : Dt} {ds : List Dt} {pos apos : Pos}
/-- sep.join(xs) -/
theorem ed_join {z : Str} {ys : List Str} (ho : ED X δ o (.str z)) (ha : ED X δ e (.lst (ys.map .str))) (hz : (ys.map (·.length)).sum + ys.length * z.length ≤ 16777216)
    (hb : attributeBase o "join" X.env (eval o X.env) = eval o X.env := by rfl) (hl : (apos.endLine == pos.line) = true := by rfl) (hs : starEach [e] X.env = (false, eval e X.env) :: starEach [] X.env := by rfl) : ED X δ (.Call (.Attribute o "join" apos) [e] [] pos) (.str (Txt.join z ys)) :=
  PE.imp (pe_join ho ha (hbase := hb) (hline := hl) (hs := hs)) fun σ H Q ⟨O, G, e, s, q⟩ => ⟨O, G, e, s, fun v G1 H1 f1 r1 => by
    cases r1
    exact ⟨⟨z, rfl⟩, O, G1, f1.s, s.mono f1, fun w G2 H2 f2 r2 => by
      cases r2 with
      | lst hx rx =>
      obtain rfl := rx.of_strs
      exact ⟨z, _, ys, rfl, rfl, .inl (.of (f2.s _ _ hx)), hz, q _ G2 H2 (f1.trans f2) (.str _)⟩⟩⟩
/-- s.split(sep) -/
theorem ed_split {z y : Str} (ho : ED X δ o (.str z)) (ha : ED X δ e (.str y)) (hy : (y.length == 0) = false) (hz : z.length + 2 ≤ sizeLine)
    (hb : attributeBase o "split" X.env (eval o X.env) = eval o X.env := by rfl) (hl : (apos.endLine == pos.line) = true := by rfl) (hs : starEach [e] X.env = (false, eval e X.env) :: starEach [] X.env := by rfl) : ED X δ (.Call (.Attribute o "split" apos) [e] [] pos) (.lst ((Txt.split z y).map .str)) :=
  PE.imp (pe_split ho ha (hbase := hb) (hline := hl) (hs := hs)) fun σ H Q ⟨O, G, e, s, q⟩ => ⟨O, G, e, s, fun v G1 H1 f1 r1 => by
    cases r1
    exact ⟨⟨z, rfl⟩, O, G1, f1.s, s.mono f1, fun w G2 H2 f2 r2 => by
      cases r2
      refine ⟨z, y, rfl, rfl, hy, hz, fun p hp => ?_⟩
      obtain ⟨f, r⟩ := new_lst (W := []) f2.s hp (RpL.strs (K := X.K) (ns := Txt.split z y))
      exact q _ _ _ ((f1.trans f2).trans f) r⟩⟩
end
end AL
end
/-! AL4 -/
section
set_option Elab.async false
set_option linter.all false
set_option maxRecDepth 100000
set_option maxHeartbeats 4000000
namespace AL
open PySem L2

/-! ### defs that change nothing: what they promise, their calls -/
/-- R: what it gives for which data; m: how many arguments -/
def spP (K : PySem.W.Frag) (R : List Dt → Dt → Prop) (m : Nat) : Sp := fun vs H Q _ => ∃ (G : Hp) (ds : List Dt) (d : Dt), ds.length = m ∧ Same G H ∧ RpL K G vs ds ∧ R ds d ∧ ∀ v G' H', Fr [] G H G' H' → Rp K G' v d → Q v H'
/-- a def that may be called by its name -/
structure Cal (P : Program) (w : World) (K : PySem.W.Frag) (mg : Str → Option Value) (base : Heap) (k : Nat) (x : Str) (sp : Sp) (dvs : List V) : Prop where
  ex : ∃ (f : Addr) (fd : FuncData) (ps : List Str) (ds : List Value), FnOk P w K mg base CX0 k f fd ps sp ∧ mg x = some (.ref f) ∧ PySem.W.keepIn K (.ref f) = true ∧ Binds K fd ps ds ∧ Vals dvs ds
/-- .. that changes nothing -/
structure FnP (P : Program) (w : World) (K : PySem.W.Frag) (mg : Str → Option Value) (base : Heap) (k : Nat) (x : Str) (R : List Dt → Dt → Prop) (m : Nat) (dds : List Dt) : Prop where
  ex : ∃ dvs, Cal P w K mg base k x (spP K R m) dvs ∧ ∀ G, RpL K G dvs dds
section
variable {X : Cx} {δ : De} {e : Expr} {es : List Expr} {d : Dt} {ds dds : List Dt} {x : Str} {p pos : Pos} {k j m : Nat} {R : List Dt → Dt → Prop}
theorem ed_call (c : FnP X.prog X.w X.K X.mg X.base k x R m dds) (hr : Room j X.A) (ha : EA X δ (e :: es) ds) (hR : R (ds ++ dds) d) (hk : k ≤ j := by decide) (hl : (ds ++ dds).length = m := by rfl) (hg : Gl X x := by rfl) (hdb : (x == ("__debug__" : Str)) = false := by decide)
    (he : starEach (e :: es) X.env = (false, eval e X.env) :: starEach es X.env := by rfl) (hpl : (backTo pos (starEach es X.env)).any (·.1) = false := by rfl) : ED X δ (.Call (.Name x p) (e :: es) [] pos) d := by
  obtain ⟨dvs, ⟨f, fd, ps, vs0, F, hm, kp, b, rv⟩, hd⟩ := c.ex
  exact PE.imp (pe_call F (hr.mono hk) hg hm kp b rv pass0 ha hdb he hpl) fun σ H Q ⟨O, G, e, s, q⟩ => ⟨O, G, e, s, fun vs G1 H1 f1 r1 => ⟨G1, ds ++ dds, d, hl, f1.s, r1.append (hd G1), hR, fun v G2 H2 f2 r2 => q v G2 H2 (f1.trans f2) r2⟩⟩
end

/-! ### what is walked -/
def WalkD (K : PySem.W.Frag) (J : It) (ds : List Dt) (G : Hp) : Prop := ∀ G2 H2, Same G G2 → Same G2 H2 →
  (∀ i, i < ds.length → J.go i H2) ∧ J.stop ds.length H2 ∧ ∀ i x H3, i < ds.length → J.yld i H2 x H3 → ∃ d G3, ds[i]? = some d ∧ Fr [] G2 H2 G3 H3 ∧ Rp K G3 x d
theorem WalkD.mono {K : PySem.W.Frag} {J : It} {ds : List Dt} {G G' : Hp} (h : WalkD K J ds G) (e : Same G G') : WalkD K J ds G' := fun G2 H2 e1 e2 => h G2 H2 (e.trans e1) e2
def wiD (K : PySem.W.Frag) (δ : De) (ds : List Dt) : TI := fun σ H R => ∃ (O : Og) (G : Hp), Same G H ∧ Sl K O G H σ δ ∧ ∀ J G' H', Fr [] G H G' H' → WalkD K J ds G' → R J H'
abbrev ID (X : Cx) (δ : De) (tg e : Expr) (ds : List Dt) : Prop := PI X tg e (wiD X.K δ ds)
theorem PI.imp {X : Cx} {tg e : Expr} {t t' : TI} (h : PI X tg e t) (k : ∀ σ H R, t' σ H R → t σ H R) : PI X tg e t' := ⟨fun pins s σ H R I q => h.run pins s σ H R I (k σ H R q)⟩
def rangeD (lo : Int) (n : Nat) : List Dt := (List.range n).map fun (i : Nat) => Dt.int (lo + (i : Int))
theorem rangeD_len (lo : Int) (n : Nat) : (rangeD lo n).length = n := by simp [rangeD]
theorem rangeD_get {lo : Int} {n i : Nat} (h : i < n) : (rangeD lo n)[i]? = some (.int (lo + (i : Int))) := by simp [rangeD, h]
def signsD (z : Str) : List Dt := z.cps.toList.map fun c => Dt.str ⟨#[c]⟩
def enumD (ds : List Dt) : List Dt := (List.range ds.length).map fun (i : Nat) => Dt.tup [.int (i : Int), ds.getD i .non]
section
variable {X : Cx} {δ : De} {e tg : Expr} {es : List Expr} {ds : List Dt} {p pos : Pos}
theorem id_list (h : ED X δ e (.lst ds)) (hl : ∀ x, foldedSetIterable e X.env x = pure x := by intro _; rfl) : ID X δ tg e ds :=
  PI.imp (pi_list h) fun σ H R ⟨O, G, e, s, k⟩ => ⟨O, G, e, s, fun v G1 H1 f1 r1 => by
    cases r1 with
    | lst hx rx =>
    refine ⟨_, rfl, ⟨_, .of (f1.s _ _ hx)⟩, k _ G1 H1 f1 fun G2 H2 e1 e2 => ⟨fun i hi => ?_, ?_, fun i x H3 hi y => ?_⟩⟩
    · obtain ⟨w, h1, h2⟩ := rx.get (List.getElem?_eq_getElem hi)
      exact ⟨_, w, .of (e2 _ _ (e1 _ _ hx)), h1⟩
    · exact ⟨_, .of (e2 _ _ (e1 _ _ hx)), Nat.le_of_eq rx.length⟩
    · obtain ⟨rfl, hy⟩ := y
      obtain ⟨d, h1, h2⟩ := rx.get' (hy _ (.of (e2 _ _ (e1 _ _ hx))))
      exact ⟨d, G2, h1, Fr.refl e2, h2.mono e1⟩⟩
theorem id_tup (h : ED X δ e (.tup ds)) : ID X δ tg e ds :=
  PI.imp (pi_tup h) fun σ H R ⟨O, G, e, s, k⟩ => ⟨O, G, e, s, fun v G1 H1 f1 r1 => by
    cases r1 with
    | tup hx rx =>
    refine ⟨_, rfl, ⟨_, .of (f1.s _ _ hx)⟩, k _ G1 H1 f1 fun G2 H2 e1 e2 => ⟨fun i hi => ?_, ?_, fun i x H3 hi y => ?_⟩⟩
    · obtain ⟨w, h1, h2⟩ := rx.get (List.getElem?_eq_getElem hi)
      exact ⟨_, w, .of (e2 _ _ (e1 _ _ hx)), h1⟩
    · exact ⟨_, .of (e2 _ _ (e1 _ _ hx)), Nat.le_of_eq rx.length⟩
    · obtain ⟨rfl, hy⟩ := y
      obtain ⟨d, h1, h2⟩ := rx.get' (hy _ (.of (e2 _ _ (e1 _ _ hx))))
      exact ⟨d, G2, h1, Fr.refl e2, h2.mono e1⟩⟩
theorem id_str {z : Str} (h : ED X δ e (.str z)) : ID X δ tg e (signsD z) :=
  PI.imp (pi_str h) fun σ H R ⟨O, G, e, s, k⟩ => ⟨O, G, e, s, fun v G1 H1 f1 r1 => by
    cases r1
    have hl : (signsD z).length = z.cps.size := by simp [signsD]
    refine ⟨z, rfl, k _ G1 H1 f1 fun G2 H2 e1 e2 => ⟨fun i hi => ?_, ?_, fun i x H3 hi y => ?_⟩⟩
    · rw [hl] at hi
      exact walk_str.goes i H2 hi trivial
    · rw [hl]
      exact walk_str.stops H2 trivial
    · rw [hl] at hi
      obtain ⟨rfl, c, h1, rfl⟩ := walk_str.yields i H2 x H3 hi trivial y
      refine ⟨.str ⟨#[c]⟩, G2, ?_, Fr.refl e2, .str _⟩
      unfold signsD
      rw [List.getElem?_map, Array.getElem?_toList, h1]
      rfl⟩
theorem id_range1 {n : Int} (h : EA X δ [e] [.int n]) (hn : 0 ≤ n ∧ n ≤ 1000000) (hm : X.mg "range" = none) (hg : Gl X "range" := by rfl) (hs : starEach [e] X.env = (false, eval e X.env) :: starEach [] X.env := by rfl) : ID X δ tg (.Call (.Name "range" p) [e] [] pos) (rangeD 0 n.toNat) :=
  PI.imp (pi_range1 hg hm h (hs := hs)) fun σ H R ⟨O, G, e, s, k⟩ => ⟨O, G, e, s, fun vs G1 H1 f1 r1 => by
    cases r1 with
    | cons r1 r2 =>
    cases r2
    cases r1
    refine ⟨n, rfl, by omega, by omega, k _ G1 H1 f1 fun G2 H2 e1 e2 => ⟨fun i hi => ?_, ?_, fun i x H3 hi y => ?_⟩⟩
    · rw [rangeD_len] at hi
      exact hi
    · rw [rangeD_len]
      exact Nat.le_refl _
    · rw [rangeD_len] at hi
      obtain ⟨rfl, rfl⟩ := y
      exact ⟨_, G2, rangeD_get hi, Fr.refl e2, .int _⟩⟩
theorem id_range2 {e2 : Expr} {lo n : Int} (h : EA X δ [e, e2] [.int lo, .int n]) (hn : 0 ≤ lo ∧ lo ≤ 1000000 ∧ -1000000 ≤ n ∧ n ≤ 1000000) (hm : X.mg "range" = none) (hg : Gl X "range" := by rfl) (hs : starEach [e, e2] X.env = (false, eval e X.env) :: starEach [e2] X.env := by rfl) (hs2 : starEach [e2] X.env = (false, eval e2 X.env) :: starEach [] X.env := by rfl) : ID X δ tg (.Call (.Name "range" p) [e, e2] [] pos) (rangeD lo (n - lo).toNat) :=
  PI.imp (pi_range2 hg hm h (hs := hs.trans (by rw [hs2]; rfl)) (hs2 := hs2)) fun σ H R ⟨O, G, e, s, k⟩ => ⟨O, G, e, s, fun vs G1 H1 f1 r1 => by
    cases r1 with
    | cons r1 r2 =>
    cases r2 with
    | cons r2 r3 =>
    cases r3
    cases r1
    cases r2
    refine ⟨lo, n, rfl, ⟨by omega, by omega, by omega, by omega⟩, k _ G1 H1 f1 fun G2 H2 e1 e2 => ⟨fun i hi => ?_, ?_, fun i x H3 hi y => ?_⟩⟩
    · rw [rangeD_len] at hi
      exact hi
    · rw [rangeD_len]
      exact Nat.le_refl _
    · rw [rangeD_len] at hi
      obtain ⟨rfl, rfl⟩ := y
      exact ⟨_, G2, rangeD_get hi, Fr.refl e2, .int _⟩⟩
theorem enumD_len (ds : List Dt) : (enumD ds).length = ds.length := by simp [enumD]
theorem enumD_get {i : Nat} {d : Dt} (h : ds[i]? = some d) : (enumD ds)[i]? = some (.tup [.int (i : Int), d]) := by
  have hi := (List.getElem?_eq_some_iff.mp h).1
  have e : ds[i] = d := (List.getElem?_eq_some_iff.mp h).2
  simp [enumD, hi, e]
/-- for i, x in enumerate(list) -/
theorem id_enum {elts : List Expr} {kk : Nat} {tpos : Pos} (h : EA X δ [e] [.lst ds]) (hm : X.mg "enumerate" = none) (hg : Gl X "enumerate" := by rfl) (hs : starEach [e] X.env = (false, eval e X.env) :: starEach [] X.env := by rfl) : ID X δ (.Tuple elts kk tpos) (.Call (.Name "enumerate" p) [e] [] pos) (enumD ds) :=
  PI.imp (pi_enum hg hm h (hs := hs)) fun σ H R ⟨O, G, e, s, k⟩ => ⟨O, G, e, s, fun vs G1 H1 f1 r1 => by
    cases r1 with
    | cons r1 r2 =>
    cases r2
    cases r1 with
    | lst hx rx =>
    rename_i a xs
    have sq : ∀ {G2 H2 : Hp}, Same G1 G2 → Same G2 H2 → SqL X.K H2 a xs := fun e1 e2 => .of (e2 _ _ (e1 _ _ hx))
    refine ⟨_, _, rfl, .of (f1.s _ _ hx), k _ G1 H1 f1 fun G2 H2 e1 e2 => ⟨fun i hi => ?_, ?_, fun i x H3 hi y => ?_⟩⟩
    · rw [enumD_len, ← rx.length] at hi
      exact walk_enum.goes i H2 hi (sq e1 e2)
    · rw [enumD_len, ← rx.length]
      exact walk_enum.stops H2 (sq e1 e2)
    · rw [enumD_len, ← rx.length] at hi
      obtain ⟨T, x1, x2, rfl, hT, rfl, h1, h2⟩ := walk_enum.yields i H2 x H3 hi (sq e1 e2) y
      cases h1
      obtain ⟨d, g1, g2⟩ := rx.get' h2
      obtain ⟨f, r⟩ := new_tup (W := []) e2 hT (RpL.cons (.int (i : Int)) (.cons (g2.mono e1) .nil))
      exact ⟨_, _, enumD_get g1, f, r⟩⟩
end

/-! ### targets -/
theorem wipe_get {σ : St} {i : Nat} : ∀ {vs : List Nat}, (wipe σ vs)[i]? = if i ∈ vs ∧ i < σ.length then some none else σ[i]?
  | [] => by simp [wipe]
  | v :: vs => by
    have ih := wipe_get (σ := σ) (i := i) (vs := vs)
    have hl := wipe_length σ vs
    unfold wipe
    by_cases h : v = i
    · subst h
      by_cases h2 : v < σ.length
      · rw [List.getElem?_set_self (by rw [hl]; exact h2), if_pos ⟨List.mem_cons_self, h2⟩]
      · rw [List.getElem?_eq_none (by rw [List.length_set, hl]; omega), if_neg (fun z => h2 z.2)]
        exact (List.getElem?_eq_none (by omega)).symm
    · rw [List.getElem?_set_ne h, ih]
      have e : (i ∈ v :: vs) ↔ i ∈ vs := by
        rw [List.mem_cons]
        exact ⟨fun z => z.resolve_left fun q => h q.symm, .inr⟩
      simp only [e]
theorem wipe_set {σ : St} {j : Nat} {y : Option V} {vs : List Nat} (h : j ∈ vs) : wipe (σ.set j y) vs = wipe σ vs := by
  refine List.ext_getElem? fun i => ?_
  rw [wipe_get, wipe_get, List.length_set]
  by_cases q : i ∈ vs ∧ i < σ.length
  · rw [if_pos q, if_pos q]
  · rw [if_neg q, if_neg q]
    by_cases hi : j = i
    · subst hi
      have : ¬ j < σ.length := fun z => q ⟨h, z⟩
      rw [List.getElem?_eq_none (by simpa using this), List.getElem?_eq_none (by omega)]
    · rw [List.getElem?_set_ne hi]
theorem wipe_wipe (σ : St) (vs : List Nat) : wipe (wipe σ vs) vs = wipe σ vs := by
  refine List.ext_getElem? fun i => ?_
  rw [wipe_get, wipe_length, wipe_get]
  by_cases q : i ∈ vs ∧ i < σ.length
  · rw [if_pos q, if_pos q]
  · rw [if_neg q]
def gD (K : PySem.W.Frag) (vs : List Nat) (δ : De) (d : Dt) (δ' : De) : TG := fun v σ H Q => ∃ (O : Og) (G : Hp), Same G H ∧ Sl K O G H σ δ ∧ Rp K G v d ∧ ∀ σ', Sl K O G H σ' δ' → wipe σ' vs = wipe σ vs → Q σ' H
def gDs (K : PySem.W.Frag) (vs : List Nat) (δ : De) (ds : List Dt) (δ' : De) : TGs := fun xs σ H Q => ∃ (O : Og) (G : Hp), Same G H ∧ Sl K O G H σ δ ∧ RpL K G xs ds ∧ ∀ σ', Sl K O G H σ' δ' → wipe σ' vs = wipe σ vs → Q σ' H
abbrev GD (X : Cx) (vs : List Nat) (δ : De) (tg : Expr) (d : Dt) (δ' : De) : Prop := PG X tg (gD X.K vs δ d δ')
abbrev GDs (X : Cx) (vs : List Nat) (δ : De) (tgs : List Expr) (ds : List Dt) (δ' : De) : Prop := PGs X tgs (gDs X.K vs δ ds δ')
theorem PG.imp {X : Cx} {tg : Expr} {t t' : TG} (h : PG X tg t) (k : ∀ v σ H R, t' v σ H R → t v σ H R) : PG X tg t' := ⟨fun pins s σ H v u R I r q => h.run pins s σ H v u R I r (k v σ H R q)⟩
theorem PGs.imp {X : Cx} {tg : List Expr} {t t' : TGs} (h : PGs X tg t) (k : ∀ v σ H R, t' v σ H R → t v σ H R) : PGs X tg t' := ⟨fun pins s σ H v u R I r q => h.run pins s σ H v u R I r (k v σ H R q)⟩
theorem PG.ex {X : Cx} {e : Expr} {ι : Sort _} {t : ι → TG} (h : ∀ i, PG X e (t i)) : PG X e (fun v σ H Q => ∃ i, t i v σ H Q) := ⟨fun pins s σ H v u Q I r ⟨i, q⟩ => (h i).run pins s σ H v u Q I r q⟩
section
variable {X : Cx} {vs : List Nat} {δ δ1 δ2 : De} {d : Dt} {ds : List Dt} {e : Expr} {es : List Expr} {pos : Pos}
theorem gd_name (j : Nat) {x : Str} (hN : X.N.Nodup) (hv : j ∈ vs := by decide) (hi : X.N[j]? = some x := by rfl) (hx : Loc X.env.scope x := by first | exact Or.inl rfl | exact Or.inr rfl) (hf : X.fn x = true ∨ X.env.scope.names.lookup x = some .local := by first | exact .inl rfl | exact .inr rfl) :
    GD X vs δ (.Name x pos) d (δ.set j (some (.sh d))) :=
  PG.imp (pg_name hN hi hx hf) fun v σ H Q ⟨O, G, e, s, r, k⟩ => k _ (s.set j r) (wipe_set hv)
theorem gds_nil : GDs X vs δ [] [] δ := PGs.imp pgs_nil fun xs σ H Q ⟨O, G, e, s, r, k⟩ => by
  cases r
  exact ⟨rfl, k σ s rfl⟩
theorem gds_cons (h : GD X vs δ e d δ1) (hr : GDs X vs δ1 es ds δ2) (hs : (assignEach (e :: es) X.env).map (·.2) = assign e X.env :: (assignEach es X.env).map (·.2) := by rfl) : GDs X vs δ (e :: es) (d :: ds) δ2 :=
  PGs.imp (pgs_cons h hr hs) fun xs σ H Q ⟨O, G, e, s, r, k⟩ => by
    cases r with
    | cons r1 r2 => exact ⟨_, _, rfl, O, G, e, s, r1, fun σ1 s1 w1 => ⟨O, G, e, s1, r2, fun σ2 s2 w2 => k σ2 s2 (w2.trans w1)⟩⟩
theorem gd_tup {kk : Nat} (h : GDs X vs δ es ds δ1) (hc : X.calm = true := by rfl) (hn : (assignEach es X.env).length = ds.length := by rfl) (hst : (assignEach es X.env).findIdx? (·.1) = none := by rfl) : GD X vs δ (.Tuple es kk pos) (.tup ds) δ1 :=
  PG.imp (pg_tup hc h (n := ds.length) hn hst) fun v σ H Q ⟨O, G, e, s, r, k⟩ => by
    cases r with
    | tup hx rx => exact ⟨_, _, rfl, .of (e _ _ hx), rx.length, O, G, e, s, rx, k⟩
end

/-! ### comprehensions -/
/-- the loop of one, whatever its tests -/
def outD (n : Nat) (b : Nat → Bool) (f : Nat → Dt) : List Dt := ((List.range n).filter b).map f
theorem outD_yes {n : Nat} {b : Nat → Bool} {f : Nat → Dt} (h : b n = true) : outD (n + 1) b f = outD n b f ++ [f n] := by
  unfold outD
  rw [List.range_succ, List.filter_append, List.map_append]
  simp [h]
theorem outD_no {n : Nat} {b : Nat → Bool} {f : Nat → Dt} (h : b n = false) : outD (n + 1) b f = outD n b f := by
  unfold outD
  rw [List.range_succ, List.filter_append, List.map_append]
  simp [h]
theorem outD_len (n : Nat) (b : Nat → Bool) (f : Nat → Dt) : (outD n b f).length ≤ n := by
  unfold outD
  rw [List.length_map]
  exact Nat.le_trans (List.length_filter_le _ _) (by simp)
theorem Sl.wipe {K : PySem.W.Frag} {O : Og} {G H : Hp} {σ : St} {δ : De} {vs : List Nat} (x : Sl K O G H σ δ) (h : ∀ i ∈ vs, δ[i]? = some none) : Sl K O G H (L2.wipe σ vs) δ :=
  x.re (wipe_length σ vs) fun i v s e q => by
    rw [wipe_get, if_neg fun z => ?_]
    · exact q
    · rw [h i z.1] at e
      cases e
section
variable {X : Cx} {δ : De} {elt tg iter : Expr} {ifs : List Expr} {scope : Scope} {own : List (Str × Nat)} {pos : Pos} {ds : List Dt} {δi : Nat → De} {b : Nat → Bool} {f : Nat → Dt}
abbrev gAll (K : PySem.W.Frag) (vs : List Nat) (δ : De) (ds : List Dt) (δi : Nat → De) : TG := fun v σ H Q => ∃ p : { p : Nat × Dt // ds[p.1]? = some p.2 }, gD K vs δ p.1.2 (δi p.1.1) v σ H Q
abbrev eAll (K : PySem.W.Frag) (n : Nat) (b : Nat → Bool) (δi : Nat → De) (f : Nat → Dt) : TE := fun σ H Q => ∃ p : { i : Nat // i < n ∧ b i = true }, tD K (δi p.1) (f p.1) σ H Q
abbrev cAll (K : PySem.W.Frag) (n : Nat) (b : Nat → Bool) (δi : Nat → De) : TT := fun σ H Q => ∃ p : { i : Nat // i < n }, tDT K (δi p.1) (b p.1) σ H Q
/-- the reading of one, for any tests -/
theorem lc_read {K : PySem.W.Frag} {tt : TT} {vs : List Nat} {σ : St} {H : Hp} {Q : VK} (hz : ds.length ≤ 100000) (hδ : ∀ i ∈ vs, δ[i]? = some none) (htt : ∀ i, i < ds.length → ∀ σ H Q, tDT K (δi i) (b i) σ H Q → tt σ H Q)
    (h : tD K δ (.lst (outD ds.length b f)) σ H Q) : tLc (wiD K δ ds) (gAll K vs δ ds δi) tt (eAll K ds.length b δi f) vs σ H Q := by
  obtain ⟨O, G, e, sl, k⟩ := h
  refine ⟨O, G, e, sl, fun J G1 H1 f1 wk D hD => ?_⟩
  have w0 : Walk J ds.length (fun H2 => ∃ G2, Same G1 G2 ∧ Same G2 H2) (fun i H2 x H3 => ∀ G2, Same G1 G2 → Same G2 H2 → ∃ d G3, ds[i]? = some d ∧ Fr [] G2 H2 G3 H3 ∧ Rp K G3 x d) :=
    ⟨fun i H2 hi ⟨G2, a1, a2⟩ => (wk G2 H2 a1 a2).1 i hi, fun H2 ⟨G2, a1, a2⟩ => (wk G2 H2 a1 a2).2.1, fun i H2 x H3 hi _ y G2 a1 a2 => (wk G2 H2 a1 a2).2.2 i x H3 hi y⟩
  refine lc_it (g := gAll K vs δ ds δi) (tt := tt) (te := eAll K ds.length b δi f)
    (vs := vs) (σ := σ) (H1 := H1) (D := D) (Qd := fun H => Q (.ref D) H) w0 (fun i H' => ∃ Gi acc, Fr [] G1 H1 Gi H' ∧ Gi D = none ∧ H' D = some (.lst acc) ∧ RpL K Gi acc (outD i b f)) ?_ ?_ ?_ ?_
  · exact ⟨G1, [], Fr.fresh f1.s hD, f1.s.free hD, upd_same, .nil⟩
  · rintro i H' _ ⟨Gi, acc, fr, _⟩
    exact ⟨Gi, fr.g, fr.s⟩
  · rintro i x H2 H3 hlt ⟨Gi, acc, fr, gD, hH, ra⟩ y
    obtain ⟨d, G3, hd, f3, rx⟩ := y Gi fr.g fr.s
    have fr3 := fr.trans f3
    have g3 : G3 D = none := f3.n _ (ne_none hH) gD
    refine ⟨⟨(i, d), hd⟩, O, G3, f3.s, ((sl.mono f1).mono fr3).wipe hδ, rx, fun σ' s' w' => ⟨w'.trans (wipe_wipe σ _), htt i hlt σ' H3 _ ⟨O, G3, f3.s, s', fun G4 H4 f4 => ?_⟩⟩⟩
    have g4 : G4 D = none := f4.n _ (ne_none (f3.same _ _ hH)) g3
    have fr4 := fr3.trans f4
    cases hb : b i with
    | false =>
      refine iteF ⟨G4, acc, fr4, g4, f4.same _ _ (f3.same _ _ hH), ?_⟩
      rw [outD_no hb]
      exact ra.mono (f3.g.trans f4.g)
    | true =>
      refine iteT ⟨⟨i, hlt, hb⟩, O, G4, f4.s, s'.mono f4, fun v G5 H5 f5 r5 => ⟨acc, f5.same _ _ (f4.same _ _ (f3.same _ _ hH)), ?_, G5, acc ++ [v], (fr4.trans f5).write (.inl hD) ?_, ?_, upd_same, ?_⟩⟩
      · rw [ra.length]
        exact Nat.lt_of_le_of_lt (Nat.le_trans (outD_len _ _ _) (by omega : i ≤ 100000)) (by decide)
      · exact f5.n _ (ne_none (f4.same _ _ (f3.same _ _ hH))) g4
      · exact f5.n _ (ne_none (f4.same _ _ (f3.same _ _ hH))) g4
      · rw [outD_yes hb]
        exact (ra.mono ((f3.g.trans f4.g).trans f5.g)).append (.cons r5 .nil)
  · rintro H' ⟨Gi, acc, fr, gD, hH, ra⟩
    have fz := fr.freeze hD hH gD
    refine k _ _ _ (f1.trans fz) (.lst upd_same (ra.mono fun c o q => ?_))
    rw [upd_ne (ne_of_none q gD)]
    exact q
theorem lc_all {tt : TT} (hi : ID X δ tg iter ds) (ok : BlkOk X.N X.env.scope scope own) (hN : X.N.Nodup) (hz : ds.length ≤ 100000) (hδ : ∀ i ∈ own.map (·.2), δ[i]? = some none)
    (hg : ∀ (s : Shared) (H : Hp) (C : Addr) (cl : List (Str × Addr)) (fp : List Addr) (i : Nat) (d : Dt), ds[i]? = some d → GD (X.blk s H scope (compEnvC scope cl C X.env) fp) (own.map (·.2)) δ tg d (δi i))
    (ht : ∀ (s : Shared) (H : Hp) (C : Addr) (cl : List (Str × Addr)) (fp : List Addr), PTs (X.blk s H scope (compEnvC scope cl C X.env) fp) ifs tt)
    (htt : ∀ i, i < ds.length → ∀ σ H Q, tDT X.K (δi i) (b i) σ H Q → tt σ H Q)
    (he : ∀ (s : Shared) (H : Hp) (C : Addr) (cl : List (Str × Addr)) (fp : List Addr) (i : Nat), i < ds.length → b i = true → ED (X.blk s H scope (compEnvC scope cl C X.env) fp) (δi i) elt (f i))
    (hc : X.calm = true) (hs : ∀ x, foldedSetIterable iter X.env x = pure x) : ED X δ (.ListComp elt [⟨tg, iter, ifs, 0⟩] scope pos) (.lst (outD ds.length b f)) :=
  PE.imp (pe_lc hc hN hi ok (g := gAll X.K (own.map (·.2)) δ ds δi) (fun s H C cl fp => PG.ex fun p => hg s H C cl fp p.1.1 p.1.2 p.2) ht
    (te := eAll X.K ds.length b δi f) (fun s H C cl fp => PE.ex fun p => he s H C cl fp p.1 p.2.1 p.2.2) hs) fun σ H Q q => lc_read hz hδ htt q
/-- [elt for tg in iter] -/
theorem ed_lc (hi : ID X δ tg iter ds) (ok : BlkOk X.N X.env.scope scope own) (hN : X.N.Nodup) (hz : ds.length ≤ 100000) (hδ : ∀ i ∈ own.map (·.2), δ[i]? = some none)
    (hg : ∀ (s : Shared) (H : Hp) (C : Addr) (cl : List (Str × Addr)) (fp : List Addr) (i : Nat) (d : Dt), ds[i]? = some d → GD (X.blk s H scope (compEnvC scope cl C X.env) fp) (own.map (·.2)) δ tg d (δi i))
    (he : ∀ (s : Shared) (H : Hp) (C : Addr) (cl : List (Str × Addr)) (fp : List Addr) (i : Nat), i < ds.length → ED (X.blk s H scope (compEnvC scope cl C X.env) fp) (δi i) elt (f i))
    (hc : X.calm = true := by rfl) (hs : ∀ x, foldedSetIterable iter X.env x = pure x := by intro _; rfl) : ED X δ (.ListComp elt [⟨tg, iter, [], 0⟩] scope pos) (.lst ((List.range ds.length).map f)) := by
  have q := lc_all (pos := pos) (b := fun _ => true) (tt := tYes) hi ok hN hz hδ hg (fun _ _ _ _ _ => pts_nil) (fun i _ σ H Q ⟨O, G, e, s, k⟩ => k G H (Fr.refl e)) (fun s H C cl fp i hi _ => he s H C cl fp i hi) hc hs
  unfold outD at q
  rw [List.filter_eq_self.mpr fun _ _ => rfl] at q
  exact q
/-- [elt for tg in iter if c] -/
theorem ed_lcIf {c : Expr} (hi : ID X δ tg iter ds) (ok : BlkOk X.N X.env.scope scope own) (hN : X.N.Nodup) (hz : ds.length ≤ 100000) (hδ : ∀ i ∈ own.map (·.2), δ[i]? = some none)
    (hg : ∀ (s : Shared) (H : Hp) (C : Addr) (cl : List (Str × Addr)) (fp : List Addr) (i : Nat) (d : Dt), ds[i]? = some d → GD (X.blk s H scope (compEnvC scope cl C X.env) fp) (own.map (·.2)) δ tg d (δi i))
    (ht : ∀ (s : Shared) (H : Hp) (C : Addr) (cl : List (Str × Addr)) (fp : List Addr) (i : Nat), i < ds.length → ET (X.blk s H scope (compEnvC scope cl C X.env) fp) (δi i) c (b i))
    (he : ∀ (s : Shared) (H : Hp) (C : Addr) (cl : List (Str × Addr)) (fp : List Addr) (i : Nat), i < ds.length → b i = true → ED (X.blk s H scope (compEnvC scope cl C X.env) fp) (δi i) elt (f i))
    (hc : X.calm = true := by rfl) (hs : ∀ x, foldedSetIterable iter X.env x = pure x := by intro _; rfl) : ED X δ (.ListComp elt [⟨tg, iter, [c], 0⟩] scope pos) (.lst (outD ds.length b f)) :=
  lc_all (tt := cAll X.K ds.length b δi) hi ok hN hz hδ hg (fun s H C cl fp => pts_one (PT.ex fun p => ht s H C cl fp p.1 p.2)) (fun i hi σ H Q q => ⟨⟨i, hi⟩, q⟩) he hc hs
end
end AL
end
/-! AL5 -/
section
set_option Elab.async false
set_option linter.all false
set_option maxRecDepth 100000
set_option maxHeartbeats 4000000
namespace AL
open PySem L2

/-! ### statements -/
structure EndsD where
  rt : Dt → De → Prop
  nx : De → Prop
  bk : De → Prop := fun _ => False
  ct : De → Prop := fun _ => False
/-- at a place of a body that began at (G0, H0) and may write W; all that was frozen is -/
def Af (K : PySem.W.Frag) (W : List Addr) (G0 H0 G : Hp) (σ : St) (δ : De) (H : Hp) : Prop := ∃ G', Same G G' ∧ Fr W G0 H0 G' H ∧ Sl K ⟨W, H0⟩ G' H σ δ
theorem Af.of {K : PySem.W.Frag} {W : List Addr} {G0 H0 G G' H : Hp} {σ : St} {δ : De} (e : Same G G') (h : Af K W G0 H0 G' σ δ H) : Af K W G0 H0 G σ δ H := by
  obtain ⟨G2, a, b, c⟩ := h
  exact ⟨G2, e.trans a, b, c⟩
/-- what is wanted behind, from G on -/
structure Bh (K : PySem.W.Frag) (W : List Addr) (G0 H0 G : Hp) (D : EndsD) (E : Ends) : Prop where
  nx : ∀ σ' δ' H', Af K W G0 H0 G σ' δ' H' → D.nx δ' → E.nx σ' H'
  rt : ∀ v d σ' δ' G' H', Same G G' → Fr W G0 H0 G' H' → Sl K ⟨W, H0⟩ G' H' σ' δ' → Rp K G' v d → D.rt d δ' → E.rt v H'
  bk : ∀ σ' δ' H', Af K W G0 H0 G σ' δ' H' → D.bk δ' → E.bk σ' H'
  ct : ∀ σ' δ' H', Af K W G0 H0 G σ' δ' H' → D.ct δ' → E.ct σ' H'
theorem Bh.up {K : PySem.W.Frag} {W : List Addr} {G0 H0 G G' : Hp} {D : EndsD} {E : Ends} (h : Bh K W G0 H0 G D E) (e : Same G G') : Bh K W G0 H0 G' D E :=
  ⟨fun σ' δ' H' a => h.nx σ' δ' H' (a.of e), fun v d σ' δ' G2 H' a => h.rt v d σ' δ' G2 H' (e.trans a), fun σ' δ' H' a => h.bk σ' δ' H' (a.of e), fun σ' δ' H' a => h.ct σ' δ' H' (a.of e)⟩
def tS (K : PySem.W.Frag) (W : List Addr) (δ : De) (D : EndsD) : TS := fun E σ H => ∃ (G0 H0 G : Hp), Fr W G0 H0 G H ∧ Sl K ⟨W, H0⟩ G H σ δ ∧ Bh K W G0 H0 G D E
abbrev SD (X : Cx) (W : List Addr) (δ : De) (st : Stmt) (D : EndsD) : Prop := PS X st (tS X.K W δ D)
abbrev SDs (X : Cx) (W : List Addr) (δ : De) (sts : List Stmt) (D : EndsD) : Prop := PSs X sts (tS X.K W δ D)
theorem PS.imp {X : Cx} {st : Stmt} {t t' : TS} (h : PS X st t) (k : ∀ E σ H, t' E σ H → t E σ H) : PS X st t' := ⟨fun pins s σ H D I q => h.run pins s σ H D I (k D σ H q)⟩
theorem PSs.imp {X : Cx} {st : List Stmt} {t t' : TS} (h : PSs X st t) (k : ∀ E σ H, t' E σ H → t E σ H) : PSs X st t' := ⟨fun pins s σ H D I q => h.run pins s σ H D I (k D σ H q)⟩
theorem PSs.ex {X : Cx} {st : List Stmt} {ι : Sort _} {t : ι → TS} (h : ∀ i, PSs X st (t i)) : PSs X st (fun E σ H => ∃ i, t i E σ H) := ⟨fun pins s σ H D I ⟨i, q⟩ => (h i).run pins s σ H D I q⟩
section
variable {X : Cx} {W : List Addr} {δ : De} {st : Stmt} {rest a b : List Stmt} {D : EndsD} {e c o e1 e2 : Expr} {es : List Expr} {d d1 d2 : Dt} {ds : List Dt} {pos p p2 apos : Pos} {k : Bool}
theorem sds_nil (h : D.nx δ) : SDs X W δ [] D := PSs.imp pss_nil fun E σ H ⟨G0, H0, G, fr, sl, q⟩ => q.nx σ δ H ⟨G, Same.refl _, fr, sl⟩ h
theorem sds_cons {M : De → Prop} (h : SD X W δ st { D with nx := M }) (hr : ∀ δ', M δ' → SDs X W δ' rest D) : SDs X W δ (st :: rest) D :=
  PSs.imp (pss_cons h (PSs.ex (ι := { δ' : De // M δ' }) (t := fun p => tS X.K W p.1 D) fun p => hr p.1 p.2)) fun E σ H ⟨G0, H0, G, fr, sl, q⟩ =>
    ⟨G0, H0, G, fr, sl, fun σ' δ' H' ⟨G', e, fr', sl'⟩ m => ⟨⟨δ', m⟩, G0, H0, G', fr', sl', q.up e⟩, q.rt, q.bk, q.ct⟩
/-- a place goes on behind an expression -/
theorem go {K : PySem.W.Frag} {G0 H0 G H G' H' : Hp} {σ : St} (fr : Fr W G0 H0 G H) (sl : Sl K ⟨W, H0⟩ G H σ δ) (f : Fr [] G H G' H') : Fr W G0 H0 G' H' ∧ Sl K ⟨W, H0⟩ G' H' σ δ := ⟨fr.trans f.wide, sl.mono f⟩
theorem sds_set (i : Nat) {x : Str} (he : ED X δ e d) (hr : SDs X W (δ.set i (some (.sh d))) rest D) (hN : X.N.Nodup) (hi : X.N[i]? = some x := by rfl) (hx : Loc X.env.scope x := by first | exact Or.inl rfl | exact Or.inr rfl) (hs : swapsWith e (some (.Name x p)) pos.line X.env = pure false := by rfl)
    (hf : X.fn x = true ∨ X.env.scope.names.lookup x = some .local := by first | exact .inl rfl | exact .inr rfl) : SDs X W δ (.Assign [.Name x p] e pos :: rest) D :=
  sds_cons (M := fun δ' => δ' = δ.set i (some (.sh d))) (PS.imp (ps_set hN hi hx he hs hf) fun E σ H ⟨G0, H0, G, fr, sl, q⟩ => ⟨_, G, fr.s, sl, fun v G1 H1 f1 r1 => by
    obtain ⟨fr1, sl1⟩ := go fr sl f1
    exact q.nx _ _ _ ⟨G1, f1.g, fr1, sl1.set i r1⟩ rfl⟩) fun δ' z => z ▸ hr
theorem sds_ret (he : ED X δ e d) (h : D.rt d δ) : SDs X W δ (.Return (some e) pos :: rest) D :=
  PSs.imp (pss_cons (ps_ret he) (pss_never (sts := rest))) fun E σ H ⟨G0, H0, G, fr, sl, q⟩ => ⟨_, G, fr.s, sl, fun v G1 H1 f1 r1 => by
    obtain ⟨fr1, sl1⟩ := go fr sl f1
    exact q.rt v d σ δ G1 H1 f1.g fr1 sl1 r1 h⟩
theorem sds_drop (he : ED X δ e d) (hr : SDs X W δ rest D) (hs : swapsWith e none pos.line X.env = pure false := by rfl) : SDs X W δ (.Expr e pos :: rest) D :=
  sds_cons (M := fun δ' => δ' = δ) (PS.imp (ps_expr he hs) fun E σ H ⟨G0, H0, G, fr, sl, q⟩ => ⟨_, G, fr.s, sl, fun v G1 H1 f1 r1 => by
    obtain ⟨fr1, sl1⟩ := go fr sl f1
    exact q.nx _ _ _ ⟨G1, f1.g, fr1, sl1⟩ rfl⟩) fun δ' z => z ▸ hr
/-! #### if -/
theorem sd_if (hc : ET X δ c k) (ha : k = true → SDs X W δ a D) (hb : k = false → SDs X W δ b D) : SD X W δ (.If c a b pos) D := by
  cases k with
  | true => exact PS.imp (ps_if hc (ha rfl) (pss_never (sts := b))) fun E σ H ⟨G0, H0, G, fr, sl, q⟩ => ⟨_, G, fr.s, sl, fun G1 H1 f1 => by
      obtain ⟨fr1, sl1⟩ := go fr sl f1
      exact iteT ⟨G0, H0, G1, fr1, sl1, q.up f1.g⟩⟩
  | false => exact PS.imp (ps_if hc (pss_never (sts := a)) (hb rfl)) fun E σ H ⟨G0, H0, G, fr, sl, q⟩ => ⟨_, G, fr.s, sl, fun G1 H1 f1 => by
      obtain ⟨fr1, sl1⟩ := go fr sl f1
      exact iteF ⟨G0, H0, G1, fr1, sl1, q.up f1.g⟩⟩
/-- behind both ways M -/
theorem sds_if (M : De → Prop) (hc : ET X δ c k) (ha : k = true → SDs X W δ a { D with nx := M }) (hb : k = false → SDs X W δ b { D with nx := M }) (hr : ∀ δ', M δ' → SDs X W δ' rest D) : SDs X W δ (.If c a b pos :: rest) D := sds_cons (sd_if hc ha hb) hr
/-- the test fails: what stands under it is never come to -/
theorem sds_ifF (hc : ET X δ c false) (hr : SDs X W δ rest D) : SDs X W δ (.If c a [] pos :: rest) D := sds_if (fun δ' => δ' = δ) hc (fun z => nomatch z) (fun _ => sds_nil rfl) fun δ' z => z ▸ hr
/-- if c: .. return; the rest -/
theorem sds_ifR (hc : ET X δ c k) (ha : k = true → SDs X W δ a { D with nx := fun _ => False }) (hr : k = false → SDs X W δ rest D) : SDs X W δ (.If c a [] pos :: rest) D :=
  sds_if (fun δ' => δ' = δ ∧ k = false) hc (fun z => PSs.imp (ha z) fun E σ H ⟨G0, H0, G, fr, sl, q⟩ => ⟨G0, H0, G, fr, sl, fun _ _ _ _ z => z.elim, q.rt, q.bk, q.ct⟩) (fun z => sds_nil ⟨rfl, z⟩) fun δ' z => z.1 ▸ hr z.2
theorem sds_ifT (hc : ET X δ c true) (ha : SDs X W δ a { D with nx := fun _ => False }) : SDs X W δ (.If c a [] pos :: rest) D := sds_ifR hc (fun _ => ha) fun z => nomatch z
/-! #### lists of one's own -/
/-- x = [..], to be filled -/
theorem sds_mk (i : Nat) {x : Str} (he : EA X δ es ds) (hr : SDs X W (δ.set i (some (.mu ds))) rest D) (hN : X.N.Nodup) (hz : ds.length ≤ 1000 := by first | decide | exact Nat.le_of_ble_eq_true rfl) (hi : X.N[i]? = some x := by rfl) (hx : Loc X.env.scope x := by first | exact Or.inl rfl | exact Or.inr rfl) (hs : swapsWith (.List es p2) (some (.Name x p)) pos.line X.env = pure false := by rfl)
    (hf : X.fn x = true ∨ X.env.scope.names.lookup x = some .local := by first | exact .inl rfl | exact .inr rfl) : SDs X W δ (.Assign [.Name x p] (.List es p2) pos :: rest) D :=
  sds_cons (M := fun δ' => δ' = δ.set i (some (.mu ds))) (PS.imp (ps_set hN hi hx (pe_lst he) hs hf) fun E σ H ⟨G0, H0, G, fr, sl, q⟩ => ⟨_, G, fr.s, sl, fun vs G1 H1 f1 r1 => ⟨by rw [r1.length]; exact Nat.le_of_lt (small1000 hz), fun l hl => by
    obtain ⟨fr1, sl1⟩ := go fr sl f1
    have h0 : H0 l = none := by
      cases q : H0 l with
      | none => rfl
      | some o => exact absurd hl (fr1.t l (ne_none q))
    have gl : G1 l = none := f1.s.free hl
    have ff := Fr.fresh (W := ([] : List Addr)) (o := .lst vs) f1.s hl
    refine q.nx _ _ _ ⟨G1, f1.g, fr1.trans ff.wide, sl1.put i (s := .mu ds) ⟨l, vs, rfl, upd_same, r1, gl, h0⟩ (Same.refl _) (fun j s' w hj q hw l' hl' => ⟨fun o ho => by rw [upd_ne (ne_of_none ho hl)]; exact ho, (sl1.keep q hw l' hl').2⟩) fun j s' w hj q hw l' hl' z => ?_⟩ rfl
    obtain rfl : l' = l := List.mem_singleton.mp z
    obtain ⟨⟨o, ho⟩, _⟩ := sl1.keep q hw l' hl'
    rw [hl] at ho
    cases ho⟩⟩) fun δ' z => z ▸ hr
/-- it is frozen -/
theorem sds_frz (i : Nat) (hr : SDs X W (δ.set i (some (.sh (.lst ds)))) rest D) (h : δ[i]? = some (some (.mu ds)) := by rfl) : SDs X W δ rest D :=
  PSs.imp hr fun E σ H ⟨G0, H0, G, fr, sl, q⟩ => by
    obtain ⟨l, xs, h1, h2, h3, g, sl'⟩ := sl.freeze h
    exact ⟨G0, H0, _, fr.freeze h3 h1 h2, sl', q.up g⟩
/-- what is flat does not hang on it -/
def Dt.flat : Dt → Bool
  | .non => true
  | .bl _ => true
  | .int _ => true
  | .str _ => true
  | _ => false
theorem Rp.flat {K : PySem.W.Frag} {G G' : Hp} {v : V} (r : Rp K G v d) (h : d.flat = true) : Rp K G' v d := by
  cases r <;> first | exact .non | exact .bl _ | exact .int _ | exact .str _ | cases h
theorem ed_frz (i : Nat) (he : ED X (δ.set i (some (.sh (.lst ds)))) e d) (hf : d.flat = true := by rfl) (h : δ[i]? = some (some (.mu ds)) := by rfl) : ED X δ e d :=
  PE.imp he fun σ H Q ⟨O, G, e, sl, k⟩ => by
    obtain ⟨l, xs, h1, h2, h3, g, sl'⟩ := sl.freeze h
    have sm : Same (upd G l (.lst xs)) H := fun b o q => by
      by_cases hb : b = l
      · subst hb; rw [upd_same] at q; rw [h1]; exact q
      · rw [upd_ne hb] at q; exact e _ _ q
    exact ⟨O, _, sm, sl', fun v G1 H1 f1 r1 => k v G H1 ⟨Same.refl _, e.trans f1.same, f1.h, fun _ _ q => q, f1.t⟩ (r1.flat hf)⟩
theorem et_frz (i : Nat) (he : ET X (δ.set i (some (.sh (.lst ds)))) e k) (h : δ[i]? = some (some (.mu ds)) := by rfl) : ET X δ e k :=
  PT.imp he fun σ H Q ⟨O, G, e, sl, k⟩ => by
    obtain ⟨l, xs, h1, h2, h3, g, sl'⟩ := sl.freeze h
    have sm : Same (upd G l (.lst xs)) H := fun b o q => by
      by_cases hb : b = l
      · subst hb; rw [upd_same] at q; rw [h1]; exact q
      · rw [upd_ne hb] at q; exact e _ _ q
    exact ⟨O, _, sm, sl', fun G1 H1 f1 => k G H1 ⟨Same.refl _, e.trans f1.same, f1.h, fun _ _ q => q, f1.t⟩⟩
/-- xs[i] of it -/
theorem ed_ixMu (i : Nat) {x : Str} {j : Int} (hb : ED X δ c (.int j)) (hd : L2.atI ds j = some d) (h : δ[i]? = some (some (.mu ds)) := by rfl) (hN : X.N[i]? = some x := by rfl) (hv : Vis X.env.scope x := by first | exact Or.inl rfl | exact Or.inr (Or.inl rfl) | exact Or.inr (Or.inr rfl)) (hdb : (x == ("__debug__" : Str)) = false := by decide)
    (hcd : (x == ("__classdict__" : Str)) = false := by decide) (hs : PlainIx c := by exact fun _ _ => rfl) : ED X δ (.Subscript (.Name x p) c pos) d :=
  PE.imp (pe_ix ix_list (pv i hN hv hdb hcd) hb hs) fun σ H Q ⟨O, G, e, sl, k⟩ => by
    obtain ⟨v, h1, l, xs, rfl, h2, h3, h4, h5⟩ := sl.at_ i _ h
    exact ⟨_, h1, O, G, e, sl, fun w G2 H2 f2 r2 => by
      cases r2
      obtain ⟨u, g1, g2⟩ := h3.atI hd
      exact ⟨l, xs, j, u, rfl, rfl, .of (f2.same _ _ h2), g1, k u G2 H2 f2 (g2.mono f2.g)⟩⟩
/-- the list of slot i, at l, is written: another one stands there -/
theorem mu_write {K : PySem.W.Frag} {G0 H0 G H : Hp} {σ : St} {i : Nat} {l : Addr} {ys : List V} {es' : List Dt} (fr : Fr W G0 H0 G H) (sl : Sl K ⟨W, H0⟩ G H σ δ) (h : δ[i]? = some (some (.mu ds))) (hl : σ[i]? = some (some (.ref l))) (g : G l = none) (h0 : H0 l = none) (r : RpL K G ys es') :
    Af K W G0 H0 G σ (δ.set i (some (.mu es'))) (upd H l (.lst ys)) := by
  have hil : i < σ.length := (List.getElem?_eq_some_iff.mp hl).1
  have es2 : σ = σ.set i (some (.ref l)) := by
    refine List.ext_getElem? fun j => ?_
    by_cases hj : i = j
    · subst hj
      rw [List.getElem?_set_self hil, hl]
    · rw [List.getElem?_set_ne hj]
  refine ⟨G, Same.refl _, fr.write (.inl h0) g, ?_⟩
  rw [es2]
  refine sl.put i (s := .mu es') ⟨l, ys, rfl, upd_same, r, g, h0⟩ (Same.refl _) (fun j s' w hj q hw l' hl' => ?_) fun j s' w hj q hw l' hl' => sl.ne j i s' _ w _ hj q h hw hl l' hl'
  have hne : l' ≠ l := fun z => sl.ne j i s' _ w _ hj q h hw hl l' hl' (by rw [z]; exact List.mem_cons_self ..)
  exact ⟨fun o ho => by rw [upd_ne hne]; exact ho, (sl.keep q hw l' hl').2⟩
theorem sds_append (i : Nat) {x : Str} (he : ED X δ e d) (hz : ds.length ≤ 100000) (hr : SDs X W (δ.set i (some (.mu (ds ++ [d])))) rest D) (h : δ[i]? = some (some (.mu ds)) := by rfl) (hN : X.N[i]? = some x := by rfl)
    (hv : Vis X.env.scope x := by first | exact Or.inl rfl | exact Or.inr (Or.inl rfl) | exact Or.inr (Or.inr rfl)) (hdb : (x == ("__debug__" : Str)) = false := by decide) (hcd : (x == ("__classdict__" : Str)) = false := by decide)
    (hbase : attributeBase (.Name x p2) "append" X.env (eval (.Name x p2) X.env) = eval (.Name x p2) X.env := by rfl)
    (hfew : ((backTo pos (starEach [e] X.env)).all (fun x => !x.1) && (backToKw pos (keywordEach [] X.env)).all (fun x => x.1.isSome)
      && decide (([e] : List Expr).length + ([] : List Keyword).length + (if ([] : List Keyword).isEmpty then 0 else 1) < 30)) = true := by rfl)
    (hline : (apos.endLine == pos.line) = true := by rfl) (hst : starEach [e] X.env = (false, eval e X.env) :: starEach [] X.env := by rfl) (hsw : swapsWith (.Call (.Attribute (.Name x p2) "append" apos) [e] [] pos) none p.line X.env = pure false := by rfl) :
    SDs X W δ (.Expr (.Call (.Attribute (.Name x p2) "append" apos) [e] [] pos) p :: rest) D :=
  sds_cons (M := fun δ' => δ' = δ.set i (some (.mu (ds ++ [d])))) (PS.imp (ps_expr (pe_bm PySem.F.plainAttrs_list PySem.F.slot_list_append PySem.F.type_list_append mt_append (pv i hN hv hdb hcd) (pa_cons he pa_nil hst) hbase hfew hline hst rfl) hsw) fun E σ H ⟨G0, H0, G, fr, sl, q⟩ => by
    obtain ⟨v, h1, l, xs, rfl, h2, h3, h4, h5⟩ := sl.at_ i _ h
    exact ⟨_, h1, .inl ⟨rfl, xs, .of h2⟩, _, G, fr.s, sl, fun w G2 H2 f2 r2 => by
      obtain ⟨fr1, sl1⟩ := go fr sl f2
      exact ⟨l, xs, w, rfl, rfl, f2.same _ _ h2, by rw [h3.length]; exact Nat.lt_of_le_of_lt hz (by decide), q.nx _ _ _ (Af.of f2.g (mu_write fr1 sl1 h h1 (f2.n _ (ne_none h2) h4) h5 ((h3.mono f2.g).append (.cons r2 .nil)))) rfl⟩⟩) fun δ' z => z ▸ hr
theorem sds_extend (i : Nat) {x : Str} {ds2 : List Dt} (he : ED X δ e (.lst ds2)) (hz : ds.length + ds2.length ≤ 100000) (hr : SDs X W (δ.set i (some (.mu (ds ++ ds2)))) rest D) (h : δ[i]? = some (some (.mu ds)) := by rfl) (hN : X.N[i]? = some x := by rfl)
    (hv : Vis X.env.scope x := by first | exact Or.inl rfl | exact Or.inr (Or.inl rfl) | exact Or.inr (Or.inr rfl)) (hdb : (x == ("__debug__" : Str)) = false := by decide) (hcd : (x == ("__classdict__" : Str)) = false := by decide)
    (hbase : attributeBase (.Name x p2) "extend" X.env (eval (.Name x p2) X.env) = eval (.Name x p2) X.env := by rfl)
    (hfew : ((backTo pos (starEach [e] X.env)).all (fun x => !x.1) && (backToKw pos (keywordEach [] X.env)).all (fun x => x.1.isSome)
      && decide (([e] : List Expr).length + ([] : List Keyword).length + (if ([] : List Keyword).isEmpty then 0 else 1) < 30)) = true := by rfl)
    (hline : (apos.endLine == pos.line) = true := by rfl) (hst : starEach [e] X.env = (false, eval e X.env) :: starEach [] X.env := by rfl) (hsw : swapsWith (.Call (.Attribute (.Name x p2) "extend" apos) [e] [] pos) none p.line X.env = pure false := by rfl) :
    SDs X W δ (.Expr (.Call (.Attribute (.Name x p2) "extend" apos) [e] [] pos) p :: rest) D :=
  sds_cons (M := fun δ' => δ' = δ.set i (some (.mu (ds ++ ds2)))) (PS.imp (ps_expr (pe_bm PySem.F.plainAttrs_list PySem.F.slot_list_extend PySem.F.type_list_extend mt_extend (pv i hN hv hdb hcd) (pa_cons he pa_nil hst) hbase hfew hline hst rfl) hsw) fun E σ H ⟨G0, H0, G, fr, sl, q⟩ => by
    obtain ⟨v, h1, l, xs, rfl, h2, h3, h4, h5⟩ := sl.at_ i _ h
    exact ⟨_, h1, .inl ⟨rfl, xs, .of h2⟩, _, G, fr.s, sl, fun w G2 H2 f2 r2 => by
      obtain ⟨fr1, sl1⟩ := go fr sl f2
      cases r2 with
      | lst hx rx => exact ⟨l, _, xs, _, rfl, rfl, f2.same _ _ h2, f2.s _ _ hx, by rw [h3.length, rx.length]; exact Nat.le_trans hz (by decide), q.nx _ _ _ (Af.of f2.g (mu_write fr1 sl1 h h1 (f2.n _ (ne_none h2) h4) h5 ((h3.mono f2.g).append rx))) rfl⟩⟩) fun δ' z => z ▸ hr
/-! #### for -/
theorem sd_for {tg iter : Expr} {body : List Stmt} {vs : List Nat} {δt : Nat → De → De} (Iv : Nat → De → Prop) (hi : ID X δ tg iter ds) (h0 : Iv 0 δ)
    (hg : ∀ i d δ', ds[i]? = some d → Iv i δ' → GD X vs δ' tg d (δt i δ')) (hb : ∀ i d δ', ds[i]? = some d → Iv i δ' → SDs X W (δt i δ') body { rt := D.rt, nx := Iv (i + 1), ct := Iv (i + 1), bk := D.nx }) (hd : ∀ δ', Iv ds.length δ' → D.nx δ')
    (hp : PassesOwn (model X.prog X.w) X.A X.env X.xe := by exact PassesOwn.never) (hc : X.calm = true := by rfl) (hs : ∀ x, foldedSetIterable iter X.env x = pure x := by intro _; rfl) : SD X W δ (.For tg iter body [] pos) D := by
  refine PS.imp (ps_for hp hc hi
    (g := fun v σ H Q => ∃ p : { p : Nat × Dt × De // ds[p.1]? = some p.2.1 ∧ Iv p.1 p.2.2 }, gD X.K vs p.1.2.2 p.1.2.1 (δt p.1.1 p.1.2.2) v σ H Q) (PG.ex fun p => hg _ _ _ p.2.1 p.2.2)
    (tb := fun E σ H => ∃ p : { p : Nat × Dt × De // ds[p.1]? = some p.2.1 ∧ Iv p.1 p.2.2 }, tS X.K W (δt p.1.1 p.1.2.2) { rt := D.rt, nx := Iv (p.1.1 + 1), ct := Iv (p.1.1 + 1), bk := D.nx } E σ H) (PSs.ex fun p => hb _ _ _ p.2.1 p.2.2) hs) fun E σ H ⟨G0, H0, G, fr, sl, q⟩ => ⟨_, G, fr.s, sl, fun J G1 H1 f1 wk => ?_⟩
  have w0 : Walk J ds.length (fun H2 => ∃ G2, Same G1 G2 ∧ Same G2 H2) (fun i H2 x H3 => ∀ G2, Same G1 G2 → Same G2 H2 → ∃ d G3, ds[i]? = some d ∧ Fr [] G2 H2 G3 H3 ∧ Rp X.K G3 x d) :=
    ⟨fun i H2 hi ⟨G2, a1, a2⟩ => (wk G2 H2 a1 a2).1 i hi, fun H2 ⟨G2, a1, a2⟩ => (wk G2 H2 a1 a2).2.1, fun i H2 x H3 hi _ y G2 a1 a2 => (wk G2 H2 a1 a2).2.2 i x H3 hi y⟩
  obtain ⟨fr1, sl1⟩ := go fr sl f1
  refine for_it (g := fun v σ H Q => ∃ p : { p : Nat × Dt × De // ds[p.1]? = some p.2.1 ∧ Iv p.1 p.2.2 }, gD X.K vs p.1.2.2 p.1.2.1 (δt p.1.1 p.1.2.2) v σ H Q)
    (tb := fun E σ H => ∃ p : { p : Nat × Dt × De // ds[p.1]? = some p.2.1 ∧ Iv p.1 p.2.2 }, tS X.K W (δt p.1.1 p.1.2.2) { rt := D.rt, nx := Iv (p.1.1 + 1), ct := Iv (p.1.1 + 1), bk := D.nx } E σ H) (D := E) (σ := σ) (H := H1) w0
    (fun i σ' H' => ∃ δ' G', Same G1 G' ∧ Fr W G0 H0 G' H' ∧ Sl X.K ⟨W, H0⟩ G' H' σ' δ' ∧ Iv i δ') ⟨δ, G1, Same.refl _, fr1, sl1, h0⟩ ?_ ?_ ?_
  · rintro i σ' H' _ ⟨δ', G', e1, fr', _⟩
    exact ⟨G', e1, fr'.s⟩
  · rintro i x σ' H2 H3 hlt ⟨δ', G', e1, fr', sl', iv⟩ y
    obtain ⟨d, G3, hd', f3, rx⟩ := y G' e1 fr'.s
    obtain ⟨fr3, sl3⟩ := go fr' sl' f3
    have e3 : Same G1 G3 := e1.trans f3.g
    have qu := q.up (f1.g.trans e3)
    refine ⟨⟨(i, d, δ'), hd', iv⟩, ⟨W, H0⟩, G3, f3.s, sl3, rx, fun σ2 s2 _ => ⟨⟨(i, d, δ'), hd', iv⟩, G0, H0, G3, fr3, s2, ?_, ?_, ?_, ?_⟩⟩
    · rintro σ4 δ4 H4 ⟨G4, e4, fr4, sl4⟩ iv4
      exact ⟨δ4, G4, e3.trans e4, fr4, sl4, iv4⟩
    · exact qu.rt
    · exact qu.nx
    · rintro σ4 δ4 H4 ⟨G4, e4, fr4, sl4⟩ iv4
      exact ⟨δ4, G4, e3.trans e4, fr4, sl4, iv4⟩
  · rintro σ' H' ⟨δ', G', e1, fr', sl', iv⟩
    exact q.nx _ _ _ ⟨G', f1.g.trans e1, fr', sl'⟩ (hd _ iv)
end
end AL
end
/-! AL6 -/
section
set_option Elab.async false
set_option linter.all false
set_option maxRecDepth 100000
set_option maxHeartbeats 4000000
namespace AL
open PySem L2

/-! ### what a slot is to hold, as it comes -/
/-- a frozen datum, or a list that was not there in Hb -/
def SdN (K : PySem.W.Frag) (Hb G H : Hp) (v : V) : Sd → Prop
  | .sh d => Rp K G v d
  | .mu ds => ∃ l xs, v = .ref l ∧ H l = some (.lst xs) ∧ RpL K G xs ds ∧ G l = none ∧ Hb l = none
  | _ => False
def tE (K : PySem.W.Frag) (δ : De) (s : Sd) : TE := fun σ H Q => ∃ (O : Og) (G : Hp), Same G H ∧ Sl K O G H σ δ ∧ ∀ v G' H', Fr [] G H G' H' → SdN K H G' H' v s → Q v H'
abbrev ES (X : Cx) (δ : De) (e : Expr) (s : Sd) : Prop := PE X e (tE X.K δ s)
section
variable {K : PySem.W.Frag} {O : Og} {G H G' H' Hb : Hp} {σ : St} {δ : De} {v : V} {s : Sd}
theorem SdN.mono (h : SdN K Hb G H v s) (f : Fr [] G H G' H') : SdN K Hb G' H' v s := by
  cases s with
  | sh d => exact Rp.mono f.g h
  | mu ds =>
    obtain ⟨l, xs, e, h1, h2, h3, h4⟩ := h
    exact ⟨l, xs, e, f.same _ _ h1, h2.mono f.g, f.n _ (ne_none h1) h3, h4⟩
  | ob p C ns ds => exact h.elim
  | hb a n => exact h.elim
  | hx a ds => exact h.elim
  | co d t => exact h.elim
theorem SdN.ok (h : SdN K Hb G H v s) (h0 : ∀ l, Hb l = none → O.H0 l = none) : SdOk K O G H v s := by
  cases s with
  | sh d => exact h
  | mu ds =>
    obtain ⟨l, xs, e, h1, h2, h3, h4⟩ := h
    exact ⟨l, xs, e, h1, h2, h3, h0 l h4⟩
  | ob p C ns ds => exact h.elim
  | hb a n => exact h.elim
  | hx a ds => exact h.elim
  | co d t => exact h.elim
theorem SdN.new (h : SdN K Hb G H v s) : ∀ l ∈ s.fp v, Hb l = none := by
  cases s with
  | sh d => rw [fp_sh]; exact fun _ z => nomatch z
  | mu ds =>
    obtain ⟨l, xs, rfl, h1, h2, h3, h4⟩ := h
    intro l' hl
    obtain rfl := List.mem_singleton.mp hl
    exact h4
  | ob p C ns ds => exact h.elim
  | hb a n => exact h.elim
  | hx a ds => exact h.elim
  | co d t => exact h.elim
/-- a slot is set, whose object is none of the others' -/
theorem Sl.putN (x : Sl K O G H σ δ) (j : Nat) (h : SdOk K O G H v s) (hf : ∀ (i : Nat) (s' : Sd) (w : V), δ[i]? = some (some s') → σ[i]? = some (some w) → ∀ l ∈ s'.fp w, l ∉ s.fp v) : Sl K O G H (σ.set j (some v)) (δ.set j (some s)) :=
  x.put j h (Same.refl _) (fun i s' w _ q hw l hl => ⟨fun o z => z, (x.keep q hw l hl).2⟩) fun i s' w _ q hw => hf i s' w q hw
/-- what slots own is apart from what is new -/
theorem Sl.there (x : Sl K O G H σ δ) {i : Nat} {s' : Sd} {w : V} {l : Addr} (q : δ[i]? = some (some s')) (hw : σ[i]? = some (some w)) (hl : l ∈ s'.fp w) : H l ≠ none := by
  obtain ⟨⟨o, ho⟩, _⟩ := x.keep q hw l hl
  exact ne_none ho
end
section
variable {X : Cx} {W : List Addr} {δ : De} {st : Stmt} {rest a b : List Stmt} {D : EndsD} {e c o e1 e2 e3 : Expr} {es : List Expr} {d d1 d2 : Dt} {ds : List Dt} {s s1 s2 s3 : Sd} {pos p p2 p3 p4 apos : Pos} {k : Bool}
theorem es_sh (h : ED X δ e d) : ES X δ e (.sh d) := PE.imp h fun σ H Q ⟨O, G, e, sl, k⟩ => ⟨O, G, e, sl, fun v G1 H1 f r => k v G1 H1 f r⟩
theorem es_mk (h : EA X δ es ds) (hz : ds.length ≤ 1000 := by first | decide | exact Nat.le_of_ble_eq_true rfl) : ES X δ (.List es pos) (.mu ds) :=
  PE.imp (pe_lst h) fun σ H Q ⟨O, G, e, sl, k⟩ => ⟨O, G, e, sl, fun vs G1 H1 f1 r1 => ⟨by rw [r1.length]; exact Nat.le_of_lt (small1000 hz), fun l hl => by
    have ff := Fr.fresh (W := ([] : List Addr)) (o := .lst vs) f1.s hl
    refine k _ _ _ (f1.trans ff) ⟨l, vs, rfl, upd_same, r1, f1.s.free hl, ?_⟩
    cases q : H l with
    | none => rfl
    | some o => exact absurd hl (f1.t l (ne_none q))⟩⟩
theorem sds_setS (i : Nat) {x : Str} (he : ES X δ e s) (hr : SDs X W (δ.set i (some s)) rest D) (hN : X.N.Nodup) (hi : X.N[i]? = some x := by rfl) (hx : Loc X.env.scope x := by first | exact Or.inl rfl | exact Or.inr rfl) (hs : swapsWith e (some (.Name x p)) pos.line X.env = pure false := by rfl)
    (hf : X.fn x = true ∨ X.env.scope.names.lookup x = some .local := by first | exact .inl rfl | exact .inr rfl) : SDs X W δ (.Assign [.Name x p] e pos :: rest) D :=
  sds_cons (M := fun δ' => δ' = δ.set i (some s)) (PS.imp (ps_set hN hi hx he hs hf) fun E σ H ⟨G0, H0, G, fr, sl, q⟩ => ⟨_, G, fr.s, sl, fun v G1 H1 f1 r1 => by
    obtain ⟨fr1, sl1⟩ := go fr sl f1
    refine q.nx _ _ _ ⟨G1, f1.g, fr1, sl1.putN i (r1.ok fun l hl => ?_) fun j s' w hj hw l hl z => ?_⟩ rfl
    · cases h : H0 l with
      | none => exact h
      | some o => exact absurd hl (fr.t l (ne_none h))
    · exact sl.there hj hw hl (r1.new l z)⟩) fun δ' z => z ▸ hr
/-- a, b = x, y -/
theorem sds_par2 (i j : Nat) {x y : Str} {kt k2 : Nat} (h1 : ES X δ e1 s1) (h2 : ES X δ e2 s2) (hr : SDs X W ((δ.set i (some s1)).set j (some s2)) rest D) (hN : X.N.Nodup)
    (hw : swappedStores [.Tuple [.Name x p, .Name y p2] kt p3] (.Tuple [e1, e2] k2 p4) X.env = pure (some [x, y]) := by rfl) (hi : X.N[i]? = some x := by rfl) (hj : X.N[j]? = some y := by rfl) (hij : i ≠ j := by decide)
    (hx : X.env.scope.names.lookup x = some .local := by rfl) (hy : X.env.scope.names.lookup y = some .local := by rfl) (hc : X.calm = true := by rfl)
    (hs1 : starEach [e1, e2] X.env = (false, eval e1 X.env) :: starEach [e2] X.env := by rfl) (hs2 : starEach [e2] X.env = (false, eval e2 X.env) :: starEach [] X.env := by rfl)
    (hs : swapsWithSole [.Tuple [.Name x p, .Name y p2] kt p3] (.Tuple [e1, e2] k2 p4) pos.line X.env = pure false := by rfl) : SDs X W δ (.Assign [.Tuple [.Name x p, .Name y p2] kt p3] (.Tuple [e1, e2] k2 p4) pos :: rest) D :=
  sds_cons (M := fun δ' => δ' = (δ.set i (some s1)).set j (some s2)) (PS.imp (ps_par hc hN hi hj hij hx hy (pa_cons h1 (pa_cons h2 pa_nil hs2) hs1) hw hs) fun E σ H ⟨G0, H0, G, fr, sl, q⟩ => ⟨_, G, fr.s, sl, fun v G1 H1 f1 r1 => by
    obtain ⟨fr1, sl1⟩ := go fr sl f1
    refine ⟨_, G1, fr1.s, sl1, fun w G2 H2 f2 r2 => ⟨v, w, rfl, ?_⟩⟩
    obtain ⟨fr2, sl2⟩ := go fr1 sl1 f2
    have n0 : ∀ l, H l = none → H0 l = none := fun l hl => by
      cases h : H0 l with
      | none => rfl
      | some o => exact absurd hl (fr.t l (ne_none h))
    have n1 : ∀ l, H1 l = none → H l = none := fun l hl => by
      cases h : H l with
      | none => rfl
      | some o => exact absurd hl (f1.t l (ne_none h))
    have sa := sl2.putN i ((r1.mono f2).ok n0) fun j s' w hj hw l hl z => sl.there hj hw hl (r1.new l z)
    have sb := (sl1.putN i (r1.ok n0) fun j s' w hj hw l hl z => sl.there hj hw hl (r1.new l z))
    refine q.nx _ _ _ ⟨G2, f1.g.trans f2.g, fr2, sa.putN j (r2.ok fun l hl => n0 l (n1 l hl)) fun j s' w hj hw l hl z => sb.there hj hw hl (r2.new l z)⟩ rfl⟩) fun δ' z => z ▸ hr
/-- a, b, c = x, y, z -/
theorem sds_par3 (i j l : Nat) {x y z : Str} {kt k2 : Nat} {p5 : Pos} (h1 : ES X δ e1 s1) (h2 : ES X δ e2 s2) (h3 : ES X δ e3 s3) (hr : SDs X W (((δ.set i (some s1)).set j (some s2)).set l (some s3)) rest D) (hN : X.N.Nodup)
    (hw : swappedStores [.Tuple [.Name x p, .Name y p2, .Name z p5] kt p3] (.Tuple [e1, e2, e3] k2 p4) X.env = pure (some [x, y, z]) := by rfl) (hi : X.N[i]? = some x := by rfl) (hj : X.N[j]? = some y := by rfl) (hl : X.N[l]? = some z := by rfl) (hij : i ≠ j := by decide) (hil : i ≠ l := by decide) (hjl : j ≠ l := by decide)
    (hx : X.env.scope.names.lookup x = some .local := by rfl) (hy : X.env.scope.names.lookup y = some .local := by rfl) (hz : X.env.scope.names.lookup z = some .local := by rfl) (hc : X.calm = true := by rfl)
    (hs1 : starEach [e1, e2, e3] X.env = (false, eval e1 X.env) :: starEach [e2, e3] X.env := by rfl) (hs2 : starEach [e2, e3] X.env = (false, eval e2 X.env) :: starEach [e3] X.env := by rfl) (hs3 : starEach [e3] X.env = (false, eval e3 X.env) :: starEach [] X.env := by rfl)
    (hs : swapsWithSole [.Tuple [.Name x p, .Name y p2, .Name z p5] kt p3] (.Tuple [e1, e2, e3] k2 p4) pos.line X.env = pure false := by rfl) : SDs X W δ (.Assign [.Tuple [.Name x p, .Name y p2, .Name z p5] kt p3] (.Tuple [e1, e2, e3] k2 p4) pos :: rest) D :=
  sds_cons (M := fun δ' => δ' = ((δ.set i (some s1)).set j (some s2)).set l (some s3)) (PS.imp (ps_par3 hc hN hi hj hl hij hil hjl hx hy hz (pa_cons h1 (pa_cons h2 (pa_cons h3 pa_nil hs3) hs2) hs1) hw hs) fun E σ H ⟨G0, H0, G, fr, sl, q⟩ => ⟨_, G, fr.s, sl, fun v G1 H1 f1 r1 => by
    obtain ⟨fr1, sl1⟩ := go fr sl f1
    refine ⟨_, G1, fr1.s, sl1, fun w G2 H2 f2 r2 => ?_⟩
    obtain ⟨fr2, sl2⟩ := go fr1 sl1 f2
    refine ⟨_, G2, fr2.s, sl2, fun u G3 H3 f3 r3 => ⟨v, w, u, rfl, ?_⟩⟩
    obtain ⟨fr3, sl3⟩ := go fr2 sl2 f3
    have n0 : ∀ l, H l = none → H0 l = none := fun l hl => by
      cases h : H0 l with
      | none => rfl
      | some o => exact absurd hl (fr.t l (ne_none h))
    have n1 : ∀ l, H1 l = none → H l = none := fun l hl => by
      cases h : H l with
      | none => rfl
      | some o => exact absurd hl (f1.t l (ne_none h))
    have n2 : ∀ l, H2 l = none → H1 l = none := fun l hl => by
      cases h : H1 l with
      | none => rfl
      | some o => exact absurd hl (f2.t l (ne_none h))
    have a1 := sl1.putN i (r1.ok n0) fun j s' w hj hw l hl z => sl.there hj hw hl (r1.new l z)
    have a2 := (a1.mono f2).putN j (r2.ok fun l hl => n0 l (n1 l hl)) fun j s' w hj hw l hl z => a1.there hj hw hl (r2.new l z)
    have a3 := (a2.mono f3).putN l (r3.ok fun l hl => n0 l (n1 l (n2 l hl))) fun j s' w hj hw l hl z => a2.there hj hw hl (r3.new l z)
    exact q.nx _ _ _ ⟨G3, (f1.g.trans f2.g).trans f3.g, fr3, a3⟩ rfl⟩) fun δ' z => z ▸ hr
/-- a target of any form -/
theorem sds_asg {tg : Expr} {vs : List Nat} {δ' : De} (he : ED X δ e d) (hg : GD X vs δ tg d δ') (hr : SDs X W δ' rest D) (hs : swapsWithSole [tg] e pos.line X.env = pure false := by rfl) (hw : swappedStores [tg] e X.env = pure none := by rfl)
    (h1 : (assignEach [tg] X.env).map (·.2) = [assign tg X.env] := by rfl) : SDs X W δ (.Assign [tg] e pos :: rest) D :=
  sds_cons (M := fun δ2 => δ2 = δ') (PS.imp (ps_asg he hg hs hw h1) fun E σ H ⟨G0, H0, G, fr, sl, q⟩ => ⟨_, G, fr.s, sl, fun v G1 H1 f1 r1 => by
    obtain ⟨fr1, sl1⟩ := go fr sl f1
    exact ⟨_, G1, fr1.s, sl1, r1, fun σ' s' _ => q.nx _ _ _ ⟨G1, f1.g, fr1, s'⟩ rfl⟩⟩) fun δ2 z => z ▸ hr
theorem ixN_eq {n : Nat} {j : Nat} (h : j < n) : ixN n (j : Int) = some j := by
  unfold ixN
  simp [h]
/-- xs[j] = e, xs a list of one's own -/
theorem sds_setMu (i : Nat) {x : Str} {j : Nat} (he : ED X δ e d) (hb : ED X δ c (.int (j : Int))) (hj : j < ds.length) (hr : SDs X W (δ.set i (some (.mu (ds.set j d)))) rest D) (h : δ[i]? = some (some (.mu ds)) := by rfl) (hN : X.N[i]? = some x := by rfl)
    (hv : Vis X.env.scope x := by first | exact Or.inl rfl | exact Or.inr (Or.inl rfl) | exact Or.inr (Or.inr rfl)) (hdb : (x == ("__debug__" : Str)) = false := by decide) (hcd : (x == ("__classdict__" : Str)) = false := by decide)
    (ha : ∀ v, assign (.Subscript (.Name x p) c p2) X.env v = (do
      let ov ← holding [v] (eval (.Name x p) X.env)
      let iv ← holding [v, ov] (eval c X.env)
      standAt p2
      holding [v, ov, iv] (setItem ov iv v)
      release [v, ov, iv] []) := by intro _; rfl)
    (hs : swapsWithSole [.Subscript (.Name x p) c p2] e pos.line X.env = pure false := by rfl) (hw : swappedStores [.Subscript (.Name x p) c p2] e X.env = pure none := by rfl)
    (h1 : (assignEach [.Subscript (.Name x p) c p2] X.env).map (·.2) = [assign (.Subscript (.Name x p) c p2) X.env] := by rfl) : SDs X W δ (.Assign [.Subscript (.Name x p) c p2] e pos :: rest) D :=
  sds_cons (M := fun δ' => δ' = δ.set i (some (.mu (ds.set j d)))) (PS.imp (ps_asg he (pg_sub (pv i hN hv hdb hcd) hb set_list ha) hs hw h1) fun E σ H ⟨G0, H0, G, fr, sl, q⟩ => ⟨_, G, fr.s, sl, fun v G1 H1 f1 r1 => by
    obtain ⟨fr1, sl1⟩ := go fr sl f1
    obtain ⟨_, g1, l, xs, rfl, g2, g3, g4, g5⟩ := sl1.at_ i _ h
    exact ⟨_, g1, _, G1, fr1.s, sl1, fun w G2 H2 f2 r2 => by
      obtain ⟨fr2, sl2⟩ := go fr1 sl1 f2
      cases r2
      exact ⟨l, xs, _, j, rfl, rfl, f2.same _ _ g2, ixN_eq (by rw [g3.length]; exact hj), q.nx _ _ _ (Af.of (f1.g.trans f2.g) (mu_write fr2 sl2 h g1 (f2.n _ (ne_none g2) g4) g5 ((g3.mono f2.g).set (r1.mono f2.g) j))) rfl⟩⟩⟩) fun δ' z => z ▸ hr
/-! #### x = [.. for ..] -/
section
variable {elt tg iter : Expr} {scope : Scope} {own : List (Str × Nat)} {δi : Nat → De} {bb : Nat → Bool} {f : Nat → Dt}
theorem sds_setLc (i : Nat) {y : Str} (hi : ID X δ tg iter ds) (ok : BlkOk X.N X.env.scope scope own) (hN : X.N.Nodup) (hz : ds.length ≤ 100000) (hδ : ∀ i ∈ own.map (·.2), δ[i]? = some none)
    (hg : ∀ (s : Shared) (H : Hp) (C : Addr) (cl : List (Str × Addr)) (fp : List Addr) (i : Nat) (d : Dt), ds[i]? = some d → GD (X.blk s H scope (compEnvC scope cl C X.env) fp) (own.map (·.2)) δ tg d (δi i))
    (he : ∀ (s : Shared) (H : Hp) (C : Addr) (cl : List (Str × Addr)) (fp : List Addr) (i : Nat), i < ds.length → ED (X.blk s H scope (compEnvC scope cl C X.env) fp) (δi i) elt (f i))
    (hr : SDs X W (δ.set i (some (.sh (.lst ((List.range ds.length).map f))))) rest D)
    (hsw : swapsWith (.ListComp elt [⟨tg, iter, [], 0⟩] scope pos) (some (.Name y p)) p2.line X.env = pure true) (hy : X.N[i]? = some y := by rfl) (hyl : X.env.scope.names.lookup y = some .local := by rfl)
    (hc : X.calm = true := by rfl) (hs : ∀ x, foldedSetIterable iter X.env x = pure x := by intro _; rfl) : SDs X W δ (.Assign [.Name y p] (.ListComp elt [⟨tg, iter, [], 0⟩] scope pos) p2 :: rest) D :=
  sds_cons (M := fun δ' => δ' = δ.set i (some (.sh (.lst ((List.range ds.length).map f))))) (PS.imp (ps_setLc hc hN hy hyl hsw hi ok (g := gAll X.K (own.map (fun x : Str × Nat => x.2)) δ ds δi) (fun s H C cl fp => PG.ex fun p => hg s H C cl fp p.1.1 p.1.2 p.2) (fun _ _ _ _ _ => pts_nil)
    (te := eAll X.K ds.length (fun _ => true) δi f) (fun s H C cl fp => PE.ex fun p => he s H C cl fp p.1 p.2.1) hs) fun E σ H ⟨G0, H0, G, fr, sl, q⟩ =>
      show tLc (wiD X.K δ ds) (gAll X.K (own.map (fun x : Str × Nat => x.2)) δ ds δi) tYes (eAll X.K ds.length (fun _ => true) δi f) (own.map (·.2)) σ H (fun x H1 => gName i x σ H1 E.nx) from lc_read hz hδ (fun i _ σ H Q ⟨O, G, e, s, k⟩ => k G H (Fr.refl e)) ⟨_, G, fr.s, sl, fun v G1 H1 f1 r1 => by
        obtain ⟨fr1, sl1⟩ := go fr sl f1
        unfold outD at r1
        rw [List.filter_eq_self.mpr fun _ _ => rfl] at r1
        exact q.nx _ _ _ ⟨G1, f1.g, fr1, sl1.set i r1⟩ rfl⟩) fun δ' z => z ▸ hr
theorem sds_setLcIf (i : Nat) {y : Str} {cnd : Expr} (hi : ID X δ tg iter ds) (ok : BlkOk X.N X.env.scope scope own) (hN : X.N.Nodup) (hz : ds.length ≤ 100000) (hδ : ∀ i ∈ own.map (·.2), δ[i]? = some none)
    (hg : ∀ (s : Shared) (H : Hp) (C : Addr) (cl : List (Str × Addr)) (fp : List Addr) (i : Nat) (d : Dt), ds[i]? = some d → GD (X.blk s H scope (compEnvC scope cl C X.env) fp) (own.map (·.2)) δ tg d (δi i))
    (ht : ∀ (s : Shared) (H : Hp) (C : Addr) (cl : List (Str × Addr)) (fp : List Addr) (i : Nat), i < ds.length → ET (X.blk s H scope (compEnvC scope cl C X.env) fp) (δi i) cnd (bb i))
    (he : ∀ (s : Shared) (H : Hp) (C : Addr) (cl : List (Str × Addr)) (fp : List Addr) (i : Nat), i < ds.length → bb i = true → ED (X.blk s H scope (compEnvC scope cl C X.env) fp) (δi i) elt (f i))
    (hr : SDs X W (δ.set i (some (.sh (.lst (outD ds.length bb f))))) rest D)
    (hsw : swapsWith (.ListComp elt [⟨tg, iter, [cnd], 0⟩] scope pos) (some (.Name y p)) p2.line X.env = pure true) (hy : X.N[i]? = some y := by rfl) (hyl : X.env.scope.names.lookup y = some .local := by rfl)
    (hc : X.calm = true := by rfl) (hs : ∀ x, foldedSetIterable iter X.env x = pure x := by intro _; rfl) : SDs X W δ (.Assign [.Name y p] (.ListComp elt [⟨tg, iter, [cnd], 0⟩] scope pos) p2 :: rest) D :=
  sds_cons (M := fun δ' => δ' = δ.set i (some (.sh (.lst (outD ds.length bb f))))) (PS.imp (ps_setLc hc hN hy hyl hsw hi ok (g := gAll X.K (own.map (fun x : Str × Nat => x.2)) δ ds δi) (fun s H C cl fp => PG.ex fun p => hg s H C cl fp p.1.1 p.1.2 p.2) (tt := cAll X.K ds.length bb δi) (fun s H C cl fp => pts_one (PT.ex fun p => ht s H C cl fp p.1 p.2))
    (te := eAll X.K ds.length bb δi f) (fun s H C cl fp => PE.ex fun p => he s H C cl fp p.1 p.2.1 p.2.2) hs) fun E σ H ⟨G0, H0, G, fr, sl, q⟩ =>
      show tLc (wiD X.K δ ds) (gAll X.K (own.map (fun x : Str × Nat => x.2)) δ ds δi) (cAll X.K ds.length bb δi) (eAll X.K ds.length bb δi f) (own.map (·.2)) σ H (fun x H1 => gName i x σ H1 E.nx) from lc_read hz hδ (fun i hi σ H Q q => ⟨⟨i, hi⟩, q⟩) ⟨_, G, fr.s, sl, fun v G1 H1 f1 r1 => by
        obtain ⟨fr1, sl1⟩ := go fr sl f1
        exact q.nx _ _ _ ⟨G1, f1.g, fr1, sl1.set i r1⟩ rfl⟩) fun δ' z => z ▸ hr
end
end

/-! ### a def by its body -/
def argsD (N : List Str) (ds : List Dt) : De := ds.map (fun d => some (.sh d)) ++ List.replicate (N.length - ds.length) none
theorem Sl.start {K : PySem.W.Frag} {O : Og} {G H : Hp} {N : List Str} {vs : List V} {ds : List Dt} (r : RpL K G vs ds) : Sl K O G H (start N vs) (argsD N ds) := by
  have hl := r.length
  have key : ∀ (i : Nat) (s : Sd), (argsD N ds)[i]? = some (some s) → ∃ d, s = .sh d ∧ ds[i]? = some d := fun i s e => by
    unfold argsD at e
    by_cases h : i < ds.length
    · rw [List.getElem?_append_left (by simpa using h), List.getElem?_map] at e
      cases q : ds[i]? with
      | none => rw [q] at e; cases e
      | some d => rw [q] at e; cases e; exact ⟨d, rfl, rfl⟩
    · rw [List.getElem?_append_right (by simpa using h), List.getElem?_replicate] at e
      split at e <;> cases e
  refine ⟨by simp [L2.start, argsD, hl], fun i s e => ?_, fun i j s s' v v' _ e _ _ _ l hl => ?_⟩
  · obtain ⟨d, rfl, hd⟩ := key i s e
    obtain ⟨v, h1, h2⟩ := r.get hd
    refine ⟨v, ?_, h2⟩
    have hi := (List.getElem?_eq_some_iff.mp h1).1
    unfold L2.start
    rw [List.getElem?_append_left (by simpa using hi), List.getElem?_map, h1]
    rfl
  · obtain ⟨d, rfl, _⟩ := key i s e
    rw [fp_sh] at hl
    cases hl
section
variable {P : Program} {w : World} {K : PySem.W.Frag} {mg : Str → Option Value} {base : Heap} {x qual : Str} {params : Arguments} {body : List Stmt} {scope : Scope} {dvs dv2 : List V} {f : Addr} {fd : FuncData} {N ps : List Str} {vds : List Value} {k m : Nat} {R : List Dt → Dt → Prop} {dds : List Dt}
theorem fnOk_of {kws : List (Str × V)} (F : FunD K x qual params body scope dvs kws f fd) (S : FnScope N ps scope) (hm : ps.length = m)
    (hb : ∀ (cdv : Value) (A : Around) (outer : List Env) (s : Shared) (H : Hp) (E : XK) (ds : List Dt) (d : Dt), Room k (A.deeper (PyProof.Rows.envOfC qual scope s.heap.objs.size f cdv)) → R ds d →
      SDs (cxOf CX0 P w K mg base N qual scope f cdv A outer s H E).nox [] (argsD N ds) body { rt := fun d' _ => d' = d, nx := fun _ => d = .non }) : FnOk P w K mg base CX0 (k + 1) f fd ps (spP K R m) := by
  refine F.ok S (fun vs H Q E ⟨G, ds, d, h1, _, h2, _⟩ => by rw [h2.length, h1, hm]) fun cdv A outer s H vs Q E hr ⟨G, ds, d, h1, e, r, hR, q⟩ => ⟨_, PSs.nox (hb cdv A outer s H E ds d hr hR), G, H, G, Fr.refl e, Sl.start r, ?_, ?_, fun _ _ _ _ z => z.elim, fun _ _ _ _ z => z.elim⟩
  · rintro σ' δ' H' ⟨G', e', fr, sl⟩ rfl
    exact q _ G' H' fr .non
  · rintro v d' σ' δ' G' H' _ fr _ r' rfl
    exact q v G' H' fr r'
/-- a def of the module -/
theorem fnP_of {kws : List (Str × V)} (F : FunD K x x params body scope dvs kws f fd) (hmg : mg x = some (.ref f)) (S : FnScope N ps scope) (b : Binds K fd ps vds) (hv : Vals dv2 vds) (hd : ∀ G, RpL K G dv2 dds) (hm : ps.length = m)
    (hb : ∀ (cdv : Value) (A : Around) (outer : List Env) (s : Shared) (H : Hp) (E : XK) (ds : List Dt) (d : Dt), Room k (A.deeper (PyProof.Rows.envOfC x scope s.heap.objs.size f cdv)) → R ds d →
      SDs (cxOf CX0 P w K mg base N x scope f cdv A outer s H E).nox [] (argsD N ds) body { rt := fun d' _ => d' = d, nx := fun _ => d = .non }) : FnP P w K mg base (k + 1) x R m dds :=
  ⟨dv2, ⟨f, fd, ps, vds, fnOk_of F S hm hb, hmg, F.kp, b, hv⟩, hd⟩
end
/-- a method that changes nothing; its first datum is the instance -/
structure MetP (P : Program) (w : World) (K : PySem.W.Frag) (mg : Str → Option Value) (base : Heap) (k : Nat) (C : Addr) (x : Str) (R : List Dt → Dt → Prop) (m : Nat) : Prop where
  ex : ∃ (f : Addr) (fd : FuncData) (ps : List Str), FnOk P w K mg base CX0 k f fd ps (spP K R m) ∧ Cls K C ∧ Meth K C x f ∧ Binds K fd ps []
theorem fget_none {f : Str} : ∀ {fs : List (Str × V)}, f ∉ fs.map (·.1) → fs.lookup f = none
  | [], _ => rfl
  | (n, v) :: fs, h => by
    simp only [List.map_cons, List.mem_cons, not_or] at h
    simp only [List.lookup]
    rw [show (f == n) = false from beq_eq_false_iff_ne.mpr h.1]
    exact fget_none h.2
section
variable {X : Cx} {δ : De} {o e : Expr} {es : List Expr} {d : Dt} {ds ds0 : List Dt} {ns : List Str} {C : Addr} {x : Str} {pos apos : Pos} {k j m : Nat} {R : List Dt → Dt → Prop}
theorem ed_meth {pl : Sem Bool} (c : MetP X.prog X.w X.K X.mg X.base k C x R m) (hr : Room j X.A) (ho : ED X δ o (.ins C ns ds0)) (ha : EA X δ (e :: es) ds) (hR : R (.ins C ns ds0 :: ds) d) (hk : k ≤ j := by decide) (hl : ds.length + 1 = m := by rfl) (hn : x ∉ ns := by decide)
    (hst : starEach (e :: es) X.env = (false, eval e X.env) :: starEach es X.env := by rfl) (hpl : (backTo pos (starEach es X.env)).any (·.1) = false := by rfl)
    (ht : eval (.Call (.Attribute o x apos) (e :: es) [] pos) X.env = (do
      let ov ← eval o X.env
      standAt apos.atName
      let (f, first) ← holding [ov] (getMethod ov x pl)
      callWith pos f first (backTo pos (starEach (e :: es) X.env)) (backToKw pos (keywordEach [] X.env))) := by rfl) : ED X δ (.Call (.Attribute o x apos) (e :: es) [] pos) d := by
  obtain ⟨f, fd, ps, F, cl, me, b⟩ := c.ex
  exact PE.imp (pe_meth (pl := pl) ho cl me F (hr.mono hk) b .nil pass0 ha hst hpl ht) fun σ H Q ⟨O, G, e, s, q⟩ => ⟨O, G, e, s, fun v G1 H1 f1 r1 => by
    have r1' := r1
    cases r1 with
    | ins hx hns rx =>
    refine ⟨_, _, _, rfl, f1.s _ _ hx, fget_none (by rw [hns]; exact hn), O, G1, f1.s, s.mono f1, fun vs G2 H2 f2 r2 => ⟨G2, .ins C ns ds0 :: ds, d, hl, f2.s, ?_, hR, fun w G3 H3 f3 r3 => q w G3 H3 ((f1.trans f2).trans f3) r3⟩⟩
    rw [List.append_nil]
    exact .cons (r1'.mono f2.g) r2⟩
theorem ed_meth0 {pl : Sem Bool} (c : MetP X.prog X.w X.K X.mg X.base k C x R m) (hr : Room j X.A) (ho : ED X δ o (.ins C ns ds0)) (hR : R [.ins C ns ds0] d) (hk : k ≤ j := by decide) (hl : 1 = m := by rfl) (hn : x ∉ ns := by decide)
    (ht : eval (.Call (.Attribute o x apos) [] [] pos) X.env = (do
      let ov ← eval o X.env
      standAt apos.atName
      let (f, first) ← holding [ov] (getMethod ov x pl)
      callWith pos f first (backTo pos (starEach [] X.env)) (backToKw pos (keywordEach [] X.env))) := by rfl) : ED X δ (.Call (.Attribute o x apos) [] [] pos) d := by
  obtain ⟨f, fd, ps, F, cl, me, b⟩ := c.ex
  exact PE.imp (pe_meth0 (pl := pl) ho cl me F (hr.mono hk) b .nil pass0 ht) fun σ H Q ⟨O, G, e, s, q⟩ => ⟨O, G, e, s, fun v G1 H1 f1 r1 => by
    have r1' := r1
    cases r1 with
    | ins hx hns rx => exact ⟨_, _, _, rfl, f1.s _ _ hx, fget_none (by rw [hns]; exact hn), G1, [.ins C ns ds0], d, hl, f1.s, .cons r1' .nil, hR, fun w G3 H3 f3 r3 => q w G3 H3 (f1.trans f3) r3⟩⟩
end
end AL
end
/-! AZ -/
section
set_option Elab.async false
set_option linter.all false
set_option maxRecDepth 100000
set_option maxHeartbeats 4000000
namespace AZ
open PySem PySem.Spec PyProof.Rows L2 AL
def top (i : Nat) : Stmt := PySem.Challenge.pw_anyletter_k58_whole_any_deed_by_flags.main.body.getD i (.Pass ⟨0, 0, 0, 0⟩)
abbrev s_is_integer : Stmt := top 16
abbrev N_is_integer : List Str := ["value"]
abbrev P_is_integer : List Str := ["value"]
theorem S_is_integer : FnScope N_is_integer P_is_integer (defScope s_is_integer) := ⟨rfl, rfl, rfl, by decide +kernel, rfl, by decide +kernel, by decide +kernel⟩
def D_is_integer : He.DefD := ⟨("is_integer", none), "is_integer", "is_integer", defArgs s_is_integer, defBody s_is_integer, defScope s_is_integer, [], []⟩
abbrev s_is_within : Stmt := top 17
abbrev N_is_within : List Str := ["value", "least", "most"]
abbrev P_is_within : List Str := ["value", "least", "most"]
theorem S_is_within : FnScope N_is_within P_is_within (defScope s_is_within) := ⟨rfl, rfl, rfl, by decide +kernel, rfl, by decide +kernel, by decide +kernel⟩
def D_is_within : He.DefD := ⟨("is_within", none), "is_within", "is_within", defArgs s_is_within, defBody s_is_within, defScope s_is_within, [], []⟩
abbrev s_are_within : Stmt := top 18
abbrev N_are_within : List Str := ["value", "least", "most", "each"]
abbrev P_are_within : List Str := ["value", "least", "most"]
theorem S_are_within : FnScope N_are_within P_are_within (defScope s_are_within) := ⟨rfl, rfl, rfl, by decide +kernel, rfl, by decide +kernel, by decide +kernel⟩
def D_are_within : He.DefD := ⟨("are_within", none), "are_within", "are_within", defArgs s_are_within, defBody s_are_within, defScope s_are_within, [], []⟩
abbrev s_is_word : Stmt := top 19
abbrev N_is_word : List Str := ["value", "sign"]
abbrev P_is_word : List Str := ["value"]
theorem S_is_word : FnScope N_is_word P_is_word (defScope s_is_word) := ⟨rfl, rfl, rfl, by decide +kernel, rfl, by decide +kernel, by decide +kernel⟩
def D_is_word : He.DefD := ⟨("is_word", none), "is_word", "is_word", defArgs s_is_word, defBody s_is_word, defScope s_is_word, [], []⟩
abbrev s_is_sign : Stmt := top 20
abbrev N_is_sign : List Str := ["value"]
abbrev P_is_sign : List Str := ["value"]
theorem S_is_sign : FnScope N_is_sign P_is_sign (defScope s_is_sign) := ⟨rfl, rfl, rfl, by decide +kernel, rfl, by decide +kernel, by decide +kernel⟩
def D_is_sign : He.DefD := ⟨("is_sign", none), "is_sign", "is_sign", defArgs s_is_sign, defBody s_is_sign, defScope s_is_sign, [], []⟩
abbrev s_is_text : Stmt := top 21
abbrev N_is_text : List Str := ["value", "sign"]
abbrev P_is_text : List Str := ["value"]
theorem S_is_text : FnScope N_is_text P_is_text (defScope s_is_text) := ⟨rfl, rfl, rfl, by decide +kernel, rfl, by decide +kernel, by decide +kernel⟩
def D_is_text : He.DefD := ⟨("is_text", none), "is_text", "is_text", defArgs s_is_text, defBody s_is_text, defScope s_is_text, [], []⟩
abbrev s_need_number : Stmt := top 22
abbrev N_need_number : List Str := ["value", "part", "least", "most"]
abbrev P_need_number : List Str := ["value", "part", "least", "most"]
theorem S_need_number : FnScope N_need_number P_need_number (defScope s_need_number) := ⟨rfl, rfl, rfl, by decide +kernel, rfl, by decide +kernel, by decide +kernel⟩
def D_need_number : He.DefD := ⟨("need_number", none), "need_number", "need_number", defArgs s_need_number, defBody s_need_number, defScope s_need_number, [], []⟩
abbrev s_need_text : Stmt := top 23
abbrev N_need_text : List Str := ["value", "part"]
abbrev P_need_text : List Str := ["value", "part"]
theorem S_need_text : FnScope N_need_text P_need_text (defScope s_need_text) := ⟨rfl, rfl, rfl, by decide +kernel, rfl, by decide +kernel, by decide +kernel⟩
def D_need_text : He.DefD := ⟨("need_text", none), "need_text", "need_text", defArgs s_need_text, defBody s_need_text, defScope s_need_text, [.str "text"], []⟩
abbrev s_is_edit : Stmt := top 29
abbrev N_is_edit : List Str := ["value"]
abbrev P_is_edit : List Str := ["value"]
theorem S_is_edit : FnScope N_is_edit P_is_edit (defScope s_is_edit) := ⟨rfl, rfl, rfl, by decide +kernel, rfl, by decide +kernel, by decide +kernel⟩
def D_is_edit : He.DefD := ⟨("is_edit", none), "is_edit", "is_edit", defArgs s_is_edit, defBody s_is_edit, defScope s_is_edit, [], []⟩
abbrev s_can_be_done : Stmt := top 30
abbrev N_can_be_done : List Str := ["text", "edit"]
abbrev P_can_be_done : List Str := ["text", "edit"]
theorem S_can_be_done : FnScope N_can_be_done P_can_be_done (defScope s_can_be_done) := ⟨rfl, rfl, rfl, by decide +kernel, rfl, by decide +kernel, by decide +kernel⟩
def D_can_be_done : He.DefD := ⟨("can_be_done", none), "can_be_done", "can_be_done", defArgs s_can_be_done, defBody s_can_be_done, defScope s_can_be_done, [], []⟩
abbrev s_done : Stmt := top 31
abbrev N_done : List Str := ["text", "edit", "at"]
abbrev P_done : List Str := ["text", "edit"]
theorem S_done : FnScope N_done P_done (defScope s_done) := ⟨rfl, rfl, rfl, by decide +kernel, rfl, by decide +kernel, by decide +kernel⟩
def D_done : He.DefD := ⟨("done", none), "done", "done", defArgs s_done, defBody s_done, defScope s_done, [], []⟩
abbrev s_behind : Stmt := top 32
abbrev N_behind : List Str := ["text", "edits", "edit"]
abbrev P_behind : List Str := ["text", "edits"]
theorem S_behind : FnScope N_behind P_behind (defScope s_behind) := ⟨rfl, rfl, rfl, by decide +kernel, rfl, by decide +kernel, by decide +kernel⟩
def D_behind : He.DefD := ⟨("behind", none), "behind", "behind", defArgs s_behind, defBody s_behind, defScope s_behind, [], []⟩
abbrev s_fits : Stmt := top 33
abbrev N_fits : List Str := ["text", "edits"]
abbrev P_fits : List Str := ["text", "edits"]
theorem S_fits : FnScope N_fits P_fits (defScope s_fits) := ⟨rfl, rfl, rfl, by decide +kernel, rfl, by decide +kernel, by decide +kernel⟩
def D_fits : He.DefD := ⟨("fits", none), "fits", "fits", defArgs s_fits, defBody s_fits, defScope s_fits, [], []⟩
abbrev s_need_edits : Stmt := top 34
abbrev N_need_edits : List Str := ["text", "edits"]
abbrev P_need_edits : List Str := ["text", "edits"]
theorem S_need_edits : FnScope N_need_edits P_need_edits (defScope s_need_edits) := ⟨rfl, rfl, rfl, by decide +kernel, rfl, by decide +kernel, by decide +kernel⟩
def D_need_edits : He.DefD := ⟨("need_edits", none), "need_edits", "need_edits", defArgs s_need_edits, defBody s_need_edits, defScope s_need_edits, [], []⟩
abbrev s_damaged : Stmt := top 35
abbrev N_damaged : List Str := ["text", "edits"]
abbrev P_damaged : List Str := ["text", "edits"]
theorem S_damaged : FnScope N_damaged P_damaged (defScope s_damaged) := ⟨rfl, rfl, rfl, by decide +kernel, rfl, by decide +kernel, by decide +kernel⟩
def D_damaged : He.DefD := ⟨("damaged", none), "damaged", "damaged", defArgs s_damaged, defBody s_damaged, defScope s_damaged, [], []⟩
abbrev s_are_words : Stmt := top 41
abbrev N_are_words : List Str := ["value", "most", "each"]
abbrev P_are_words : List Str := ["value", "most"]
theorem S_are_words : FnScope N_are_words P_are_words (defScope s_are_words) := ⟨rfl, rfl, rfl, by decide +kernel, rfl, by decide +kernel, by decide +kernel⟩
def D_are_words : He.DefD := ⟨("are_words", none), "are_words", "are_words", defArgs s_are_words, defBody s_are_words, defScope s_are_words, [], []⟩
abbrev s_need_book : Stmt := top 42
abbrev N_need_book : List Str := ["value", "part"]
abbrev P_need_book : List Str := ["value", "part"]
theorem S_need_book : FnScope N_need_book P_need_book (defScope s_need_book) := ⟨rfl, rfl, rfl, by decide +kernel, rfl, by decide +kernel, by decide +kernel⟩
def D_need_book : He.DefD := ⟨("need_book", none), "need_book", "need_book", defArgs s_need_book, defBody s_need_book, defScope s_need_book, [.str "book"], []⟩
abbrev s_need_row : Stmt := top 43
abbrev N_need_row : List Str := ["book", "value", "part"]
abbrev P_need_row : List Str := ["book", "value", "part"]
theorem S_need_row : FnScope N_need_row P_need_row (defScope s_need_row) := ⟨rfl, rfl, rfl, by decide +kernel, rfl, by decide +kernel, by decide +kernel⟩
def D_need_row : He.DefD := ⟨("need_row", none), "need_row", "need_row", defArgs s_need_row, defBody s_need_row, defScope s_need_row, [.str "row"], []⟩
abbrev s_need_copies : Stmt := top 44
abbrev N_need_copies : List Str := ["book", "value"]
abbrev P_need_copies : List Str := ["book", "value"]
theorem S_need_copies : FnScope N_need_copies P_need_copies (defScope s_need_copies) := ⟨rfl, rfl, rfl, by decide +kernel, rfl, by decide +kernel, by decide +kernel⟩
def D_need_copies : He.DefD := ⟨("need_copies", none), "need_copies", "need_copies", defArgs s_need_copies, defBody s_need_copies, defScope s_need_copies, [], []⟩
abbrev s_text_in : Stmt := top 45
abbrev N_text_in : List Str := ["book", "row", "copies", "number", "turn"]
abbrev P_text_in : List Str := ["book", "row", "copies"]
theorem S_text_in : FnScope N_text_in P_text_in (defScope s_text_in) := ⟨rfl, rfl, rfl, by decide +kernel, rfl, by decide +kernel, by decide +kernel⟩
def D_text_in : He.DefD := ⟨("text_in", none), "text_in", "text_in", defArgs s_text_in, defBody s_text_in, defScope s_text_in, [], []⟩
abbrev s_row_in : Stmt := top 46
abbrev N_row_in : List Str := ["book", "text", "known", "number", "word", "item"]
abbrev P_row_in : List Str := ["book", "text"]
theorem S_row_in : FnScope N_row_in P_row_in (defScope s_row_in) := ⟨rfl, rfl, rfl, by decide +kernel, rfl, by decide +kernel, by decide +kernel⟩
def D_row_in : He.DefD := ⟨("row_in", none), "row_in", "row_in", defArgs s_row_in, defBody s_row_in, defScope s_row_in, [], []⟩
abbrev s_spelled : Stmt := top 47
abbrev N_spelled : List Str := ["book", "row", "copies", "told", "many", "signs", "number"]
abbrev P_spelled : List Str := ["book", "row", "copies"]
theorem S_spelled : FnScope N_spelled P_spelled (defScope s_spelled) := ⟨rfl, rfl, rfl, by decide +kernel, rfl, by decide +kernel, by decide +kernel⟩
def D_spelled : He.DefD := ⟨("spelled", none), "spelled", "spelled", defArgs s_spelled, defBody s_spelled, defScope s_spelled, [], []⟩
abbrev s_are_deeds : Stmt := top 51
abbrev N_are_deeds : List Str := ["value", "many", "states", "deed"]
abbrev P_are_deeds : List Str := ["value", "many"]
theorem S_are_deeds : FnScope N_are_deeds P_are_deeds (defScope s_are_deeds) := ⟨rfl, rfl, rfl, by decide +kernel, rfl, by decide +kernel, by decide +kernel⟩
def D_are_deeds : He.DefD := ⟨("are_deeds", none), "are_deeds", "are_deeds", defArgs s_are_deeds, defBody s_are_deeds, defScope s_are_deeds, [], []⟩
abbrev s_need_machine : Stmt := top 52
abbrev N_need_machine : List Str := ["value"]
abbrev P_need_machine : List Str := ["value"]
theorem S_need_machine : FnScope N_need_machine P_need_machine (defScope s_need_machine) := ⟨rfl, rfl, rfl, by decide +kernel, rfl, by decide +kernel, by decide +kernel⟩
def D_need_machine : He.DefD := ⟨("need_machine", none), "need_machine", "need_machine", defArgs s_need_machine, defBody s_need_machine, defScope s_need_machine, [], []⟩
abbrev s_end_of : Stmt := top 53
abbrev N_end_of : List Str := ["machine", "row", "start", "number"]
abbrev P_end_of : List Str := ["machine", "row", "start"]
theorem S_end_of : FnScope N_end_of P_end_of (defScope s_end_of) := ⟨rfl, rfl, rfl, by decide +kernel, rfl, by decide +kernel, by decide +kernel⟩
def D_end_of : He.DefD := ⟨("end_of", none), "end_of", "end_of", defArgs s_end_of, defBody s_end_of, defScope s_end_of, [], []⟩
abbrev s_ends_of : Stmt := top 54
abbrev N_ends_of : List Str := ["machine", "row", "start"]
abbrev P_ends_of : List Str := ["machine", "row"]
theorem S_ends_of : FnScope N_ends_of P_ends_of (defScope s_ends_of) := ⟨rfl, rfl, rfl, by decide +kernel, rfl, by decide +kernel, by decide +kernel⟩
def D_ends_of : He.DefD := ⟨("ends_of", none), "ends_of", "ends_of", defArgs s_ends_of, defBody s_ends_of, defScope s_ends_of, [], []⟩
abbrev s_fixed : Stmt := top 56
abbrev N_fixed : List Str := ["value", "part"]
abbrev P_fixed : List Str := ["value"]
theorem S_fixed : FnScope N_fixed P_fixed (defScope s_fixed) := ⟨rfl, rfl, rfl, by decide +kernel, rfl, by decide +kernel, by decide +kernel⟩
def D_fixed : He.DefD := ⟨("fixed", none), "fixed", "fixed", defArgs s_fixed, defBody s_fixed, defScope s_fixed, [], []⟩
abbrev s_is_cut : Stmt := top 61
abbrev N_is_cut : List Str := ["text", "at"]
abbrev P_is_cut : List Str := ["text", "at"]
theorem S_is_cut : FnScope N_is_cut P_is_cut (defScope s_is_cut) := ⟨rfl, rfl, rfl, by decide +kernel, rfl, by decide +kernel, by decide +kernel⟩
def D_is_cut : He.DefD := ⟨("is_cut", none), "is_cut", "is_cut", defArgs s_is_cut, defBody s_is_cut, defScope s_is_cut, [], []⟩
abbrev s_copies_told : Stmt := top 62
abbrev N_copies_told : List Str := ["word", "other"]
abbrev P_copies_told : List Str := ["word", "other"]
theorem S_copies_told : FnScope N_copies_told P_copies_told (defScope s_copies_told) := ⟨rfl, rfl, rfl, by decide +kernel, rfl, by decide +kernel, by decide +kernel⟩
def D_copies_told : He.DefD := ⟨("copies_told", none), "copies_told", "copies_told", defArgs s_copies_told, defBody s_copies_told, defScope s_copies_told, [], []⟩
abbrev s_best_begins : Stmt := top 63
abbrev N_best_begins : List Str := ["text", "word", "last", "none", "rows", "end", "first", "row", "many", "found"]
abbrev P_best_begins : List Str := ["text", "word", "last"]
theorem S_best_begins : FnScope N_best_begins P_best_begins (defScope s_best_begins) := ⟨rfl, rfl, rfl, by decide +kernel, rfl, by decide +kernel, by decide +kernel⟩
def D_best_begins : He.DefD := ⟨("best_begins", none), "best_begins", "best_begins", defArgs s_best_begins, defBody s_best_begins, defScope s_best_begins, [], []⟩
abbrev s_raised : Stmt := top 64
abbrev N_raised : List Str := ["pair", "more"]
abbrev P_raised : List Str := ["pair", "more"]
theorem S_raised : FnScope N_raised P_raised (defScope s_raised) := ⟨rfl, rfl, rfl, by decide +kernel, rfl, by decide +kernel, by decide +kernel⟩
def D_raised : He.DefD := ⟨("raised", none), "raised", "raised", defArgs s_raised, defBody s_raised, defScope s_raised, [], []⟩
abbrev s_alone_cost : Stmt := top 65
abbrev N_alone_cost : List Str := ["mine", "word", "text", "rows", "end", "row"]
abbrev P_alone_cost : List Str := ["mine", "word"]
theorem S_alone_cost : FnScope N_alone_cost P_alone_cost (defScope s_alone_cost) := ⟨rfl, rfl, rfl, by decide +kernel, rfl, by decide +kernel, by decide +kernel⟩
def D_alone_cost : He.DefD := ⟨("alone_cost", none), "alone_cost", "alone_cost", defArgs s_alone_cost, defBody s_alone_cost, defScope s_alone_cost, [], []⟩
abbrev s_side_costs : Stmt := top 66
abbrev N_side_costs : List Str := ["mine", "word", "text", "pair"]
abbrev P_side_costs : List Str := ["mine", "word"]
theorem S_side_costs : FnScope N_side_costs P_side_costs (defScope s_side_costs) := ⟨rfl, rfl, rfl, by decide +kernel, rfl, by decide +kernel, by decide +kernel⟩
def D_side_costs : He.DefD := ⟨("side_costs", none), "side_costs", "side_costs", defArgs s_side_costs, defBody s_side_costs, defScope s_side_costs, [], []⟩
abbrev s_border_cost : Stmt := top 67
abbrev N_border_cost : List Str := ["ahead", "behind", "many", "lost", "at", "changed"]
abbrev P_border_cost : List Str := ["ahead", "behind"]
theorem S_border_cost : FnScope N_border_cost P_border_cost (defScope s_border_cost) := ⟨rfl, rfl, rfl, by decide +kernel, rfl, by decide +kernel, by decide +kernel⟩
def D_border_cost : He.DefD := ⟨("border_cost", none), "border_cost", "border_cost", defArgs s_border_cost, defBody s_border_cost, defScope s_border_cost, [], []⟩
abbrev s_triples_of : Stmt := top 69
abbrev N_triples_of : List Str := ["many", "found", "first", "second", "word"]
abbrev P_triples_of : List Str := ["many"]
theorem S_triples_of : FnScope N_triples_of P_triples_of (defScope s_triples_of) := ⟨rfl, rfl, rfl, by decide +kernel, rfl, by decide +kernel, by decide +kernel⟩
def D_triples_of : He.DefD := ⟨("triples_of", none), "triples_of", "triples_of", defArgs s_triples_of, defBody s_triples_of, defScope s_triples_of, [], []⟩
abbrev s_cheapest : Stmt := top 70
abbrev N_cheapest : List Str := ["words", "costs", "best", "triple", "cost"]
abbrev P_cheapest : List Str := ["words"]
theorem S_cheapest : FnScope N_cheapest P_cheapest (defScope s_cheapest) := ⟨rfl, rfl, rfl, by decide +kernel, rfl, by decide +kernel, by decide +kernel⟩
def D_cheapest : He.DefD := ⟨("cheapest", none), "cheapest", "cheapest", defArgs s_cheapest, defBody s_cheapest, defScope s_cheapest, [], []⟩
abbrev s_made_words : Stmt := top 71
abbrev N_made_words : List Str := ["book", "many", "costs", "told", "triple"]
abbrev P_made_words : List Str := ["book", "many"]
theorem S_made_words : FnScope N_made_words P_made_words (defScope s_made_words) := ⟨rfl, rfl, rfl, by decide +kernel, rfl, by decide +kernel, by decide +kernel⟩
def D_made_words : He.DefD := ⟨("made_words", none), "made_words", "made_words", defArgs s_made_words, defBody s_made_words, defScope s_made_words, [], []⟩
abbrev s_price : Stmt := top 72
abbrev N_price : List Str := ["book", "best"]
abbrev P_price : List Str := ["book"]
theorem S_price : FnScope N_price P_price (defScope s_price) := ⟨rfl, rfl, rfl, by decide +kernel, rfl, by decide +kernel, by decide +kernel⟩
def D_price : He.DefD := ⟨("price", none), "price", "price", defArgs s_price, defBody s_price, defScope s_price, [], []⟩
abbrev s_settling : Stmt := top 74
abbrev N_settling : List Str := ["machine", "number", "many"]
abbrev P_settling : List Str := ["machine", "number"]
theorem S_settling : FnScope N_settling P_settling (defScope s_settling) := ⟨rfl, rfl, rfl, by decide +kernel, rfl, by decide +kernel, by decide +kernel⟩
def D_settling : He.DefD := ⟨("settling", none), "settling", "settling", defArgs s_settling, defBody s_settling, defScope s_settling, [], []⟩
abbrev s_settles : Stmt := top 76
abbrev N_settles : List Str := ["machine", "number"]
abbrev P_settles : List Str := ["machine", "number"]
theorem S_settles : FnScope N_settles P_settles (defScope s_settles) := ⟨rfl, rfl, rfl, by decide +kernel, rfl, by decide +kernel, by decide +kernel⟩
def D_settles : He.DefD := ⟨("settles", none), "settles", "settles", defArgs s_settles, defBody s_settles, defScope s_settles, [], []⟩
abbrev s_need_asked : Stmt := top 84
abbrev N_need_asked : List Str := ["machine", "copies", "many", "due"]
abbrev P_need_asked : List Str := ["machine", "copies", "many"]
theorem S_need_asked : FnScope N_need_asked P_need_asked (defScope s_need_asked) := ⟨rfl, rfl, rfl, by decide +kernel, rfl, by decide +kernel, by decide +kernel⟩
def D_need_asked : He.DefD := ⟨("need_asked", none), "need_asked", "need_asked", defArgs s_need_asked, defBody s_need_asked, defScope s_need_asked, [], []⟩
abbrev s_without : Stmt := top 85
abbrev N_without : List Str := ["word", "copies", "fewer", "wide", "found", "pair"]
abbrev P_without : List Str := ["word", "copies", "fewer"]
theorem S_without : FnScope N_without P_without (defScope s_without) := ⟨rfl, rfl, rfl, by decide +kernel, rfl, by decide +kernel, by decide +kernel⟩
def D_without : He.DefD := ⟨("without", none), "without", "without", defArgs s_without, defBody s_without, defScope s_without, [], []⟩
abbrev s_parted : Stmt := top 86
abbrev N_parted : List Str := ["machine", "number", "copies", "many", "whole", "left", "start"]
abbrev P_parted : List Str := ["machine", "number", "copies", "many"]
theorem S_parted : FnScope N_parted P_parted (defScope s_parted) := ⟨rfl, rfl, rfl, by decide +kernel, rfl, by decide +kernel, by decide +kernel⟩
def D_parted : He.DefD := ⟨("parted", none), "parted", "parted", defArgs s_parted, defBody s_parted, defScope s_parted, [], []⟩
abbrev s_copies_for : Stmt := top 87
abbrev N_copies_for : List Str := ["machine", "many", "found", "number", "deed", "start", "each"]
abbrev P_copies_for : List Str := ["machine", "many"]
theorem S_copies_for : FnScope N_copies_for P_copies_for (defScope s_copies_for) := ⟨rfl, rfl, rfl, by decide +kernel, rfl, by decide +kernel, by decide +kernel⟩
def D_copies_for : He.DefD := ⟨("copies_for", none), "copies_for", "copies_for", defArgs s_copies_for, defBody s_copies_for, defScope s_copies_for, [], []⟩
abbrev s_judged_text : Stmt := top 88
abbrev N_judged_text : List Str := ["machine", "copies", "many", "told", "number", "found"]
abbrev P_judged_text : List Str := ["machine", "copies", "many"]
theorem S_judged_text : FnScope N_judged_text P_judged_text (defScope s_judged_text) := ⟨rfl, rfl, rfl, by decide +kernel, rfl, by decide +kernel, by decide +kernel⟩
def D_judged_text : He.DefD := ⟨("judged_text", none), "judged_text", "judged_text", defArgs s_judged_text, defBody s_judged_text, defScope s_judged_text, [], []⟩
abbrev s_need_lets : Stmt := top 93
abbrev N_need_lets : List Str := ["machine", "many", "number"]
abbrev P_need_lets : List Str := ["machine", "many"]
theorem S_need_lets : FnScope N_need_lets P_need_lets (defScope s_need_lets) := ⟨rfl, rfl, rfl, by decide +kernel, rfl, by decide +kernel, by decide +kernel⟩
def D_need_lets : He.DefD := ⟨("need_lets", none), "need_lets", "need_lets", defArgs s_need_lets, defBody s_need_lets, defScope s_need_lets, [], []⟩
abbrev s_rows_asked : Stmt := top 96
abbrev N_rows_asked : List Str := ["many", "made", "found", "one", "other", "pair"]
abbrev P_rows_asked : List Str := ["many", "made"]
theorem S_rows_asked : FnScope N_rows_asked P_rows_asked (defScope s_rows_asked) := ⟨rfl, rfl, rfl, by decide +kernel, rfl, by decide +kernel, by decide +kernel⟩
def D_rows_asked : He.DefD := ⟨("rows_asked", none), "rows_asked", "rows_asked", defArgs s_rows_asked, defBody s_rows_asked, defScope s_rows_asked, [], []⟩
abbrev s_judged_machine : Stmt := top 98
abbrev N_judged_machine : List Str := ["machine", "many", "made", "first", "second", "word", "walk", "row", "text", "found"]
abbrev P_judged_machine : List Str := ["machine", "many"]
theorem S_judged_machine : FnScope N_judged_machine P_judged_machine (defScope s_judged_machine) := ⟨rfl, rfl, rfl, by decide +kernel, rfl, by decide +kernel, by decide +kernel⟩
def D_judged_machine : He.DefD := ⟨("judged_machine", none), "judged_machine", "judged_machine", defArgs s_judged_machine, defBody s_judged_machine, defScope s_judged_machine, [], []⟩
abbrev s_L_harbor : Stmt := top 100
abbrev N_L_harbor : List Str := ["_law_script", "_law_cell"]
abbrev P_L_harbor : List Str := ["_law_script"]
theorem S_L_harbor : FnScope N_L_harbor P_L_harbor (defScope s_L_harbor) := ⟨rfl, rfl, rfl, by decide +kernel, rfl, by decide +kernel, by decide +kernel⟩
def D_L_harbor : He.DefD := ⟨("_law_harbor", none), "_law_harbor", "_law_harbor", defArgs s_L_harbor, defBody s_L_harbor, defScope s_L_harbor, [], []⟩
abbrev s_L_tide : Stmt := top 101
abbrev N_L_tide : List Str := ["_law_harbor_here", "_law_many", "_law_rest", "_law_turn", "_law_cell", "_law_mixed"]
abbrev P_L_tide : List Str := ["_law_harbor_here", "_law_many"]
theorem S_L_tide : FnScope N_L_tide P_L_tide (defScope s_L_tide) := ⟨rfl, rfl, rfl, by decide +kernel, rfl, by decide +kernel, by decide +kernel⟩
def D_L_tide : He.DefD := ⟨("_law_tide", none), "_law_tide", "_law_tide", defArgs s_L_tide, defBody s_L_tide, defScope s_L_tide, [], []⟩
abbrev s_L_one : Stmt := top 102
abbrev N_L_one : List Str := ["_law_harbor_here", "_law_some"]
abbrev P_L_one : List Str := ["_law_harbor_here", "_law_some"]
theorem S_L_one : FnScope N_L_one P_L_one (defScope s_L_one) := ⟨rfl, rfl, rfl, by decide +kernel, rfl, by decide +kernel, by decide +kernel⟩
def D_L_one : He.DefD := ⟨("_law_one", none), "_law_one", "_law_one", defArgs s_L_one, defBody s_L_one, defScope s_L_one, [], []⟩
abbrev s_L_book : Stmt := top 103
abbrev N_L_book : List Str := ["_law_harbor_here", "_law_many", "_law_letter"]
abbrev P_L_book : List Str := ["_law_harbor_here", "_law_many"]
theorem S_L_book : FnScope N_L_book P_L_book (defScope s_L_book) := ⟨rfl, rfl, rfl, by decide +kernel, rfl, by decide +kernel, by decide +kernel⟩
def D_L_book : He.DefD := ⟨("_law_book", none), "_law_book", "_law_book", defArgs s_L_book, defBody s_L_book, defScope s_L_book, [], []⟩
abbrev s_L_price : Stmt := top 104
abbrev N_L_price : List Str := ["_law_words", "_law_costs", "_law_word", "_law_other"]
abbrev P_L_price : List Str := ["_law_words"]
theorem S_L_price : FnScope N_L_price P_L_price (defScope s_L_price) := ⟨rfl, rfl, rfl, by decide +kernel, rfl, by decide +kernel, by decide +kernel⟩
def D_L_price : He.DefD := ⟨("_law_price", none), "_law_price", "_law_price", defArgs s_L_price, defBody s_L_price, defScope s_L_price, [], []⟩
abbrev s_L_deed : Stmt := top 105
abbrev N_L_deed : List Str := ["_law_harbor_here", "_law_states", "_law_way", "_law_state", "_law_top"]
abbrev P_L_deed : List Str := ["_law_harbor_here", "_law_states"]
theorem S_L_deed : FnScope N_L_deed P_L_deed (defScope s_L_deed) := ⟨rfl, rfl, rfl, by decide +kernel, rfl, by decide +kernel, by decide +kernel⟩
def D_L_deed : He.DefD := ⟨("_law_deed", none), "_law_deed", "_law_deed", defArgs s_L_deed, defBody s_L_deed, defScope s_L_deed, [], []⟩
abbrev s_L_once : Stmt := top 106
abbrev N_L_once : List Str := ["_law_harbor_here", "_law_states", "_law_some", "_law_state"]
abbrev P_L_once : List Str := ["_law_harbor_here", "_law_states"]
theorem S_L_once : FnScope N_L_once P_L_once (defScope s_L_once) := ⟨rfl, rfl, rfl, by decide +kernel, rfl, by decide +kernel, by decide +kernel⟩
def D_L_once : He.DefD := ⟨("_law_once", none), "_law_once", "_law_once", defArgs s_L_once, defBody s_L_once, defScope s_L_once, [], []⟩
abbrev s_L_end : Stmt := top 109
abbrev N_L_end : List Str := ["_law_words", "_law_deeds", "_law_text", "_law_start", "_law_item"]
abbrev P_L_end : List Str := ["_law_words", "_law_deeds", "_law_text", "_law_start"]
theorem S_L_end : FnScope N_L_end P_L_end (defScope s_L_end) := ⟨rfl, rfl, rfl, by decide +kernel, rfl, by decide +kernel, by decide +kernel⟩
def D_L_end : He.DefD := ⟨("_law_end", none), "_law_end", "_law_end", defArgs s_L_end, defBody s_L_end, defScope s_L_end, [], []⟩
abbrev s_L_spelled : Stmt := top 110
abbrev N_L_spelled : List Str := ["_law_words", "_law_row", "_law_copies", "_law_found", "_law_number"]
abbrev P_L_spelled : List Str := ["_law_words", "_law_row", "_law_copies"]
theorem S_L_spelled : FnScope N_L_spelled P_L_spelled (defScope s_L_spelled) := ⟨rfl, rfl, rfl, by decide +kernel, rfl, by decide +kernel, by decide +kernel⟩
def D_L_spelled : He.DefD := ⟨("_law_spelled", none), "_law_spelled", "_law_spelled", defArgs s_L_spelled, defBody s_L_spelled, defScope s_L_spelled, [], []⟩
abbrev s_L_done : Stmt := top 111
abbrev N_L_done : List Str := ["_law_text", "_law_edit_here", "_law_at"]
abbrev P_L_done : List Str := ["_law_text", "_law_edit_here"]
theorem S_L_done : FnScope N_L_done P_L_done (defScope s_L_done) := ⟨rfl, rfl, rfl, by decide +kernel, rfl, by decide +kernel, by decide +kernel⟩
def D_L_done : He.DefD := ⟨("_law_done", none), "_law_done", "_law_done", defArgs s_L_done, defBody s_L_done, defScope s_L_done, [], []⟩
abbrev s_L_edit : Stmt := top 112
abbrev N_L_edit : List Str := ["_law_harbor_here", "_law_text", "_law_signs", "_law_way", "_law_sign", "_law_at"]
abbrev P_L_edit : List Str := ["_law_harbor_here", "_law_text", "_law_signs"]
theorem S_L_edit : FnScope N_L_edit P_L_edit (defScope s_L_edit) := ⟨rfl, rfl, rfl, by decide +kernel, rfl, by decide +kernel, by decide +kernel⟩
def D_L_edit : He.DefD := ⟨("_law_edit", none), "_law_edit", "_law_edit", defArgs s_L_edit, defBody s_L_edit, defScope s_L_edit, [], []⟩
abbrev s_L_damage : Stmt := top 113
abbrev N_L_damage : List Str := ["_law_harbor_here", "_law_text", "_law_many", "_law_signs", "_law_found", "_law_turn", "_law_edit_here"]
abbrev P_L_damage : List Str := ["_law_harbor_here", "_law_text", "_law_many", "_law_signs"]
theorem S_L_damage : FnScope N_L_damage P_L_damage (defScope s_L_damage) := ⟨rfl, rfl, rfl, by decide +kernel, rfl, by decide +kernel, by decide +kernel⟩
def D_L_damage : He.DefD := ⟨("_law_damage", none), "_law_damage", "_law_damage", defArgs s_L_damage, defBody s_L_damage, defScope s_L_damage, [], []⟩
abbrev s_L_worst : Stmt := top 114
abbrev N_L_worst : List Str := ["_law_harbor_here", "_law_text", "_law_many", "_law_spots", "_law_at", "_law_first", "_law_found", "_law_some", "_law_spot"]
abbrev P_L_worst : List Str := ["_law_harbor_here", "_law_text", "_law_many"]
theorem S_L_worst : FnScope N_L_worst P_L_worst (defScope s_L_worst) := ⟨rfl, rfl, rfl, by decide +kernel, rfl, by decide +kernel, by decide +kernel⟩
def D_L_worst : He.DefD := ⟨("_law_worst", none), "_law_worst", "_law_worst", defArgs s_L_worst, defBody s_L_worst, defScope s_L_worst, [], []⟩
abbrev s_L_hurt : Stmt := top 115
abbrev N_L_hurt : List Str := ["_law_harbor_here", "_law_text", "_law_many", "_law_edits", "_law_behind", "_law_edit_here"]
abbrev P_L_hurt : List Str := ["_law_harbor_here", "_law_text", "_law_many"]
theorem S_L_hurt : FnScope N_L_hurt P_L_hurt (defScope s_L_hurt) := ⟨rfl, rfl, rfl, by decide +kernel, rfl, by decide +kernel, by decide +kernel⟩
def D_L_hurt : He.DefD := ⟨("_law_hurt", none), "_law_hurt", "_law_hurt", defArgs s_L_hurt, defBody s_L_hurt, defScope s_L_hurt, [], []⟩
abbrev s_L_flags : Stmt := top 116
abbrev N_L_flags : List Str := ["_law_plain", "_law_many", "_law_found", "_law_state", "_law_deed_here"]
abbrev P_L_flags : List Str := ["_law_plain"]
theorem S_L_flags : FnScope N_L_flags P_L_flags (defScope s_L_flags) := ⟨rfl, rfl, rfl, by decide +kernel, rfl, by decide +kernel, by decide +kernel⟩
def D_L_flags : He.DefD := ⟨("_law_flags", none), "_law_flags", "_law_flags", defArgs s_L_flags, defBody s_L_flags, defScope s_L_flags, [], []⟩
abbrev s_L_flags_right : Stmt := top 117
abbrev N_L_flags_right : List Str := ["_law_harbor_here", "_law_plain", "_law_states", "_law_turn", "_law_words", "_law_deeds", "_law_machine", "_law_many", "_law_number", "_law_copies", "_law_lap", "_law_row", "_law_now", "_law_start", "_law_text", "_law_edits", "_law_behind"]
abbrev P_L_flags_right : List Str := ["_law_harbor_here"]
theorem S_L_flags_right : FnScope N_L_flags_right P_L_flags_right (defScope s_L_flags_right) := ⟨rfl, rfl, rfl, by decide +kernel, rfl, by decide +kernel, by decide +kernel⟩
def D_L_flags_right : He.DefD := ⟨("_law_flags_right", none), "_law_flags_right", "_law_flags_right", defArgs s_L_flags_right, defBody s_L_flags_right, defScope s_L_flags_right, [], []⟩
abbrev s_L_late_right : Stmt := top 118
abbrev N_L_late_right : List Str := ["_law_harbor_here", "_law_top", "_law_many", "_law_words", "_law_deeds", "_law_state", "_law_machine", "_law_copies", "_law_fewer", "_law_told", "_law_text", "_law_behind", "_law_edit_here"]
abbrev P_L_late_right : List Str := ["_law_harbor_here"]
theorem S_L_late_right : FnScope N_L_late_right P_L_late_right (defScope s_L_late_right) := ⟨rfl, rfl, rfl, by decide +kernel, rfl, by decide +kernel, by decide +kernel⟩
def D_L_late_right : He.DefD := ⟨("_law_late_right", none), "_law_late_right", "_law_late_right", defArgs s_L_late_right, defBody s_L_late_right, defScope s_L_late_right, [], []⟩
abbrev s_law : Stmt := top 119
abbrev N_law : List Str := ["_law_script", "_law_harbor_here"]
abbrev P_law : List Str := ["_law_script"]
theorem S_law : FnScope N_law P_law (defScope s_law) := ⟨rfl, rfl, rfl, by decide +kernel, rfl, by decide +kernel, by decide +kernel⟩
def D_law : He.DefD := ⟨("law", none), "law", "law", defArgs s_law, defBody s_law, defScope s_law, [], []⟩
abbrev s_Book__init : Stmt := inClass (top 40) 0
abbrev N_Book__init : List Str := ["self", "words"]
abbrev P_Book__init : List Str := ["self", "words"]
theorem S_Book__init : FnScope N_Book__init P_Book__init (defScope s_Book__init) := ⟨rfl, rfl, rfl, by decide +kernel, rfl, by decide +kernel, by decide +kernel⟩
def D_Book__init : He.DefD := ⟨("Book", some "__init__"), "__init__", "Book.__init__", defArgs s_Book__init, defBody s_Book__init, defScope s_Book__init, [], []⟩
abbrev s_Machine__init : Stmt := inClass (top 50) 0
abbrev N_Machine__init : List Str := ["self", "book", "deeds", "deed"]
abbrev P_Machine__init : List Str := ["self", "book", "deeds"]
theorem S_Machine__init : FnScope N_Machine__init P_Machine__init (defScope s_Machine__init) := ⟨rfl, rfl, rfl, by decide +kernel, rfl, by decide +kernel, by decide +kernel⟩
def D_Machine__init : He.DefD := ⟨("Machine", some "__init__"), "__init__", "Machine.__init__", defArgs s_Machine__init, defBody s_Machine__init, defScope s_Machine__init, [], []⟩
abbrev s_Machine_done : Stmt := inClass (top 50) 1
abbrev N_Machine_done : List Str := ["self", "row", "start", "told"]
abbrev P_Machine_done : List Str := ["self", "row", "start"]
theorem S_Machine_done : FnScope N_Machine_done P_Machine_done (defScope s_Machine_done) := ⟨rfl, rfl, rfl, by decide +kernel, rfl, by decide +kernel, by decide +kernel⟩
def D_Machine_done : He.DefD := ⟨("Machine", some "done"), "done", "Machine.done", defArgs s_Machine_done, defBody s_Machine_done, defScope s_Machine_done, [], []⟩
abbrev s_Machine_done_text : Stmt := inClass (top 50) 2
abbrev N_Machine_done_text : List Str := ["self", "text", "start"]
abbrev P_Machine_done_text : List Str := ["self", "text", "start"]
theorem S_Machine_done_text : FnScope N_Machine_done_text P_Machine_done_text (defScope s_Machine_done_text) := ⟨rfl, rfl, rfl, by decide +kernel, rfl, by decide +kernel, by decide +kernel⟩
def D_Machine_done_text : He.DefD := ⟨("Machine", some "done_text"), "done_text", "Machine.done_text", defArgs s_Machine_done_text, defBody s_Machine_done_text, defScope s_Machine_done_text, [], []⟩
abbrev s_Paper__eq : Stmt := inClass (top 57) 2
abbrev N_Paper__eq : List Str := ["self", "other"]
abbrev P_Paper__eq : List Str := ["self", "other"]
theorem S_Paper__eq : FnScope N_Paper__eq P_Paper__eq (defScope s_Paper__eq) := ⟨rfl, rfl, rfl, by decide +kernel, rfl, by decide +kernel, by decide +kernel⟩
def D_Paper__eq : He.DefD := ⟨("Paper", some "__eq__"), "__eq__", "Paper.__eq__", defArgs s_Paper__eq, defBody s_Paper__eq, defScope s_Paper__eq, [], []⟩
abbrev s_Costs__init : Stmt := inClass (top 68) 0
abbrev N_Costs__init : List Str := ["self", "words"]
abbrev P_Costs__init : List Str := ["self", "words"]
theorem S_Costs__init : FnScope N_Costs__init P_Costs__init (defScope s_Costs__init) := ⟨rfl, rfl, rfl, by decide +kernel, rfl, by decide +kernel, by decide +kernel⟩
def D_Costs__init : He.DefD := ⟨("Costs", some "__init__"), "__init__", "Costs.__init__", defArgs s_Costs__init, defBody s_Costs__init, defScope s_Costs__init, [], []⟩
abbrev s_Costs_of : Stmt := inClass (top 68) 1
abbrev N_Costs_of : List Str := ["self", "mine", "word", "one", "other"]
abbrev P_Costs_of : List Str := ["self", "mine", "word"]
theorem S_Costs_of : FnScope N_Costs_of P_Costs_of (defScope s_Costs_of) := ⟨rfl, rfl, rfl, by decide +kernel, rfl, by decide +kernel, by decide +kernel⟩
def D_Costs_of : He.DefD := ⟨("Costs", some "of"), "of", "Costs.of", defArgs s_Costs_of, defBody s_Costs_of, defScope s_Costs_of, [], []⟩
abbrev s_Costs_over : Stmt := inClass (top 68) 2
abbrev N_Costs_over : List Str := ["self", "first", "second", "word"]
abbrev P_Costs_over : List Str := ["self", "first", "second", "word"]
theorem S_Costs_over : FnScope N_Costs_over P_Costs_over (defScope s_Costs_over) := ⟨rfl, rfl, rfl, by decide +kernel, rfl, by decide +kernel, by decide +kernel⟩
def D_Costs_over : He.DefD := ⟨("Costs", some "over"), "over", "Costs.over", defArgs s_Costs_over, defBody s_Costs_over, defScope s_Costs_over, [], []⟩
abbrev s_Costs_triple : Stmt := inClass (top 68) 3
abbrev N_Costs_triple : List Str := ["self", "first", "second", "word"]
abbrev P_Costs_triple : List Str := ["self", "first", "second", "word"]
theorem S_Costs_triple : FnScope N_Costs_triple P_Costs_triple (defScope s_Costs_triple) := ⟨rfl, rfl, rfl, by decide +kernel, rfl, by decide +kernel, by decide +kernel⟩
def D_Costs_triple : He.DefD := ⟨("Costs", some "triple"), "triple", "Costs.triple", defArgs s_Costs_triple, defBody s_Costs_triple, defScope s_Costs_triple, [], []⟩
abbrev s_Walk__init : Stmt := inClass (top 94) 0
abbrev N_Walk__init : List Str := ["self", "machine", "many", "words", "number", "word", "at", "begin"]
abbrev P_Walk__init : List Str := ["self", "machine", "many"]
theorem S_Walk__init : FnScope N_Walk__init P_Walk__init (defScope s_Walk__init) := ⟨rfl, rfl, rfl, by decide +kernel, rfl, by decide +kernel, by decide +kernel⟩
def D_Walk__init : He.DefD := ⟨("Walk", some "__init__"), "__init__", "Walk.__init__", defArgs s_Walk__init, defBody s_Walk__init, defScope s_Walk__init, [], []⟩
abbrev s_Walk_tries_at : Stmt := inClass (top 94) 1
abbrev N_Walk_tries_at : List Str := ["self", "begin", "some", "letter"]
abbrev P_Walk_tries_at : List Str := ["self", "begin"]
theorem S_Walk_tries_at : FnScope N_Walk_tries_at P_Walk_tries_at (defScope s_Walk_tries_at) := ⟨rfl, rfl, rfl, by decide +kernel, rfl, by decide +kernel, by decide +kernel⟩
def D_Walk_tries_at : He.DefD := ⟨("Walk", some "tries_at"), "tries_at", "Walk.tries_at", defArgs s_Walk_tries_at, defBody s_Walk_tries_at, defScope s_Walk_tries_at, [], []⟩
def fnL : List He.DefD := [D_is_integer, D_is_within, D_are_within, D_is_word, D_is_sign, D_is_text, D_need_number, D_need_text, D_is_edit, D_can_be_done, D_done, D_behind, D_fits, D_need_edits, D_damaged, D_are_words, D_need_book, D_need_row, D_need_copies, D_text_in, D_row_in, D_spelled, D_are_deeds, D_need_machine, D_end_of, D_ends_of, D_fixed, D_is_cut, D_copies_told, D_best_begins, D_raised, D_alone_cost, D_side_costs, D_border_cost, D_triples_of, D_cheapest, D_made_words, D_price, D_settling, D_settles, D_need_asked, D_without, D_parted, D_copies_for, D_judged_text, D_need_lets, D_rows_asked, D_judged_machine, D_L_harbor, D_L_tide, D_L_one, D_L_book, D_L_price, D_L_deed, D_L_once, D_L_end, D_L_spelled, D_L_done, D_L_edit, D_L_damage, D_L_worst, D_L_hurt, D_L_flags, D_L_flags_right, D_L_late_right, D_law, D_Book__init, D_Machine__init, D_Machine_done, D_Machine_done_text, D_Paper__eq, D_Costs__init, D_Costs_of, D_Costs_over, D_Costs_triple, D_Walk__init, D_Walk_tries_at]
def faL : List He.Fa := [.glo "BadBook", .glo "BadEdits", .glo "BadMachine", .glo "BadNumber", .glo "BadRow", .glo "BadText", .glo "Book", .glo "Copies", .glo "Costs", .glo "Differs", .glo "GoesRound", .glo "Lets", .glo "Machine", .glo "Misfit", .glo "Paper", .glo "Parts", .glo "Stands", .glo "Walk", .glo "_law_book", .glo "_law_damage", .glo "_law_deed", .glo "_law_done", .glo "_law_edit", .glo "_law_end", .glo "_law_flags", .glo "_law_flags_right", .glo "_law_harbor", .glo "_law_hurt", .glo "_law_late_right", .glo "_law_once", .glo "_law_one", .glo "_law_price", .glo "_law_spelled", .glo "_law_tide", .glo "_law_worst", .glo "alone_cost", .glo "are_deeds", .glo "are_within", .glo "are_words", .glo "behind", .glo "best_begins", .glo "border_cost", .glo "can_be_done", .glo "cheapest", .glo "copies_for", .glo "copies_told", .glo "damaged", .glo "done", .glo "end_of", .glo "ends_of", .glo "fits", .glo "fixed", .glo "is_back", .glo "is_cut", .glo "is_edit", .glo "is_integer", .glo "is_sign", .glo "is_text", .glo "is_within", .glo "is_word", .glo "judged_machine", .glo "judged_text", .glo "law", .glo "made_words", .glo "need_asked", .glo "need_book", .glo "need_copies", .glo "need_edits", .glo "need_lets", .glo "need_machine", .glo "need_number", .glo "need_row", .glo "need_text", .glo "parted", .glo "price", .glo "raised", .glo "row_in", .glo "rows_asked", .glo "settles", .glo "settling", .glo "side_costs", .glo "spelled", .glo "text_in", .glo "triples_of", .glo "without", .free "abs", .free "all", .free "any", .free "bool", .free "enumerate", .free "int", .free "isinstance", .free "len", .free "list", .free "max", .free "min", .free "range", .free "set", .free "str", .free "sum", .free "tuple", .str "BLANK" " ", .str "CHANGED" "changed", .str "LETTERS" "abcdefghijklmnopqrstuvwxyz", .str "LOST" "lost", .str "PUT" "put", .str "SIGNS" "abcdefghijklmnopqrstuvwxyz ", .int "MOST_COPIES_books" 12, .int "MOST_COPIES_copies" 12, .int "MOST_EDITS_copies" 3, .int "MOST_EDITS_edits" 12, .int "MOST_LETTERS" 12, .int "MOST_MADE" 4, .int "MOST_NUMBERS" 10000, .int "MOST_SIGNS" 200000, .int "MOST_STATES" 40, .int "MOST_WORDS" 40, .cls "Book", .noat "Book" "words", .cls "Machine", .noat "Machine" "book", .noat "Machine" "deeds", .noat "Machine" "states", .cls "Paper", .cls "Costs", .noat "Costs" "words", .noat "Costs" "alone", .noat "Costs" "ahead", .noat "Costs" "behind", .cls "Walk", .noat "Walk" "machine", .noat "Walk" "many", .noat "Walk" "numbers", .noat "Walk" "begins", .noat "Walk" "tried", .cls "Lets", .noat "Lets" "word", .noat "Lets" "parts", .cls "Copies", .noat "Copies" "word", .noat "Copies" "parts", .noat "Copies" "numbers", .cls "Stands", .noat "Stands" "word", .noat "Stands" "parts", .cls "Parts", .noat "Parts" "word", .noat "Parts" "parts", .noat "Parts" "row", .noat "Parts" "start", .noat "Parts" "edits", .meth "Machine" "done", .meth "Machine" "done_text", .meth "Costs" "of", .meth "Costs" "over", .meth "Costs" "triple", .meth "Walk" "tries_at", .mkr "Book", .mkr "Machine", .mkr "Costs", .mkr "Walk"]
def kitL : List (Str × Str) := [("Book", "Book"), ("Machine", "Machine"), ("Parts", "Parts"), ("Copies", "Paper"), ("Lets", "Paper"), ("Stands", "Paper")]
def insL : List Str := ["Book", "Machine", "Parts", "Copies", "Lets", "Stands"]
/-- facts of one's own -/
structure Own (K : PySem.W.Frag) : Prop where
  kit : ∀ p ∈ kitL, PySem.W.kitOne K (.ref (He.ga K p.1)) (.ref (He.ga K p.2)) = some true
  ins : ∀ c ∈ insL, PySem.W.findIn K (.ref (He.ga K c)) "__class__" = some (some (.builtin "object.__class__")) ∧ PySem.W.specialIn K (.builtin "object.__class__") "__get__" = some (some (.builtin "getset_descriptor.__get__")) ∧ PySem.W.takesIn K (.builtin "object.__class__") = some true ∧ PySem.W.mroIn K (He.ga K c) (.type "object") = some true
/-- the module's facts -/
structure Zc (K : PySem.W.Frag) (mg : Str → Option Value) : Prop where
  c : ∃ h : Heap, K.In h ∧ h.Ns mainGlobals mg
  s : He.SaysD faL fnL K
  o : Own K
section
variable {K : PySem.W.Frag} {mg : Str → Option Value}
theorem Zc.g_BadBook (Z : Zc K mg) : mg ("BadBook" : Str) = some (.ref (He.ga K "BadBook")) := let ⟨_, X, G⟩ := Z.c; He.glo_ok X G (Z.s.fact 0 (by rfl))
theorem Zc.g_BadEdits (Z : Zc K mg) : mg ("BadEdits" : Str) = some (.ref (He.ga K "BadEdits")) := let ⟨_, X, G⟩ := Z.c; He.glo_ok X G (Z.s.fact 1 (by rfl))
theorem Zc.g_BadMachine (Z : Zc K mg) : mg ("BadMachine" : Str) = some (.ref (He.ga K "BadMachine")) := let ⟨_, X, G⟩ := Z.c; He.glo_ok X G (Z.s.fact 2 (by rfl))
theorem Zc.g_BadNumber (Z : Zc K mg) : mg ("BadNumber" : Str) = some (.ref (He.ga K "BadNumber")) := let ⟨_, X, G⟩ := Z.c; He.glo_ok X G (Z.s.fact 3 (by rfl))
theorem Zc.g_BadRow (Z : Zc K mg) : mg ("BadRow" : Str) = some (.ref (He.ga K "BadRow")) := let ⟨_, X, G⟩ := Z.c; He.glo_ok X G (Z.s.fact 4 (by rfl))
theorem Zc.g_BadText (Z : Zc K mg) : mg ("BadText" : Str) = some (.ref (He.ga K "BadText")) := let ⟨_, X, G⟩ := Z.c; He.glo_ok X G (Z.s.fact 5 (by rfl))
theorem Zc.g_Book (Z : Zc K mg) : mg ("Book" : Str) = some (.ref (He.ga K "Book")) := let ⟨_, X, G⟩ := Z.c; He.glo_ok X G (Z.s.fact 6 (by rfl))
theorem Zc.g_Copies (Z : Zc K mg) : mg ("Copies" : Str) = some (.ref (He.ga K "Copies")) := let ⟨_, X, G⟩ := Z.c; He.glo_ok X G (Z.s.fact 7 (by rfl))
theorem Zc.g_Costs (Z : Zc K mg) : mg ("Costs" : Str) = some (.ref (He.ga K "Costs")) := let ⟨_, X, G⟩ := Z.c; He.glo_ok X G (Z.s.fact 8 (by rfl))
theorem Zc.g_Differs (Z : Zc K mg) : mg ("Differs" : Str) = some (.ref (He.ga K "Differs")) := let ⟨_, X, G⟩ := Z.c; He.glo_ok X G (Z.s.fact 9 (by rfl))
theorem Zc.g_GoesRound (Z : Zc K mg) : mg ("GoesRound" : Str) = some (.ref (He.ga K "GoesRound")) := let ⟨_, X, G⟩ := Z.c; He.glo_ok X G (Z.s.fact 10 (by rfl))
theorem Zc.g_Lets (Z : Zc K mg) : mg ("Lets" : Str) = some (.ref (He.ga K "Lets")) := let ⟨_, X, G⟩ := Z.c; He.glo_ok X G (Z.s.fact 11 (by rfl))
theorem Zc.g_Machine (Z : Zc K mg) : mg ("Machine" : Str) = some (.ref (He.ga K "Machine")) := let ⟨_, X, G⟩ := Z.c; He.glo_ok X G (Z.s.fact 12 (by rfl))
theorem Zc.g_Misfit (Z : Zc K mg) : mg ("Misfit" : Str) = some (.ref (He.ga K "Misfit")) := let ⟨_, X, G⟩ := Z.c; He.glo_ok X G (Z.s.fact 13 (by rfl))
theorem Zc.g_Paper (Z : Zc K mg) : mg ("Paper" : Str) = some (.ref (He.ga K "Paper")) := let ⟨_, X, G⟩ := Z.c; He.glo_ok X G (Z.s.fact 14 (by rfl))
theorem Zc.g_Parts (Z : Zc K mg) : mg ("Parts" : Str) = some (.ref (He.ga K "Parts")) := let ⟨_, X, G⟩ := Z.c; He.glo_ok X G (Z.s.fact 15 (by rfl))
theorem Zc.g_Stands (Z : Zc K mg) : mg ("Stands" : Str) = some (.ref (He.ga K "Stands")) := let ⟨_, X, G⟩ := Z.c; He.glo_ok X G (Z.s.fact 16 (by rfl))
theorem Zc.g_Walk (Z : Zc K mg) : mg ("Walk" : Str) = some (.ref (He.ga K "Walk")) := let ⟨_, X, G⟩ := Z.c; He.glo_ok X G (Z.s.fact 17 (by rfl))
theorem Zc.g_L_book (Z : Zc K mg) : mg ("_law_book" : Str) = some (.ref (He.ga K "_law_book")) := let ⟨_, X, G⟩ := Z.c; He.glo_ok X G (Z.s.fact 18 (by rfl))
theorem Zc.g_L_damage (Z : Zc K mg) : mg ("_law_damage" : Str) = some (.ref (He.ga K "_law_damage")) := let ⟨_, X, G⟩ := Z.c; He.glo_ok X G (Z.s.fact 19 (by rfl))
theorem Zc.g_L_deed (Z : Zc K mg) : mg ("_law_deed" : Str) = some (.ref (He.ga K "_law_deed")) := let ⟨_, X, G⟩ := Z.c; He.glo_ok X G (Z.s.fact 20 (by rfl))
theorem Zc.g_L_done (Z : Zc K mg) : mg ("_law_done" : Str) = some (.ref (He.ga K "_law_done")) := let ⟨_, X, G⟩ := Z.c; He.glo_ok X G (Z.s.fact 21 (by rfl))
theorem Zc.g_L_edit (Z : Zc K mg) : mg ("_law_edit" : Str) = some (.ref (He.ga K "_law_edit")) := let ⟨_, X, G⟩ := Z.c; He.glo_ok X G (Z.s.fact 22 (by rfl))
theorem Zc.g_L_end (Z : Zc K mg) : mg ("_law_end" : Str) = some (.ref (He.ga K "_law_end")) := let ⟨_, X, G⟩ := Z.c; He.glo_ok X G (Z.s.fact 23 (by rfl))
theorem Zc.g_L_flags (Z : Zc K mg) : mg ("_law_flags" : Str) = some (.ref (He.ga K "_law_flags")) := let ⟨_, X, G⟩ := Z.c; He.glo_ok X G (Z.s.fact 24 (by rfl))
theorem Zc.g_L_flags_right (Z : Zc K mg) : mg ("_law_flags_right" : Str) = some (.ref (He.ga K "_law_flags_right")) := let ⟨_, X, G⟩ := Z.c; He.glo_ok X G (Z.s.fact 25 (by rfl))
theorem Zc.g_L_harbor (Z : Zc K mg) : mg ("_law_harbor" : Str) = some (.ref (He.ga K "_law_harbor")) := let ⟨_, X, G⟩ := Z.c; He.glo_ok X G (Z.s.fact 26 (by rfl))
theorem Zc.g_L_hurt (Z : Zc K mg) : mg ("_law_hurt" : Str) = some (.ref (He.ga K "_law_hurt")) := let ⟨_, X, G⟩ := Z.c; He.glo_ok X G (Z.s.fact 27 (by rfl))
theorem Zc.g_L_late_right (Z : Zc K mg) : mg ("_law_late_right" : Str) = some (.ref (He.ga K "_law_late_right")) := let ⟨_, X, G⟩ := Z.c; He.glo_ok X G (Z.s.fact 28 (by rfl))
theorem Zc.g_L_once (Z : Zc K mg) : mg ("_law_once" : Str) = some (.ref (He.ga K "_law_once")) := let ⟨_, X, G⟩ := Z.c; He.glo_ok X G (Z.s.fact 29 (by rfl))
theorem Zc.g_L_one (Z : Zc K mg) : mg ("_law_one" : Str) = some (.ref (He.ga K "_law_one")) := let ⟨_, X, G⟩ := Z.c; He.glo_ok X G (Z.s.fact 30 (by rfl))
theorem Zc.g_L_price (Z : Zc K mg) : mg ("_law_price" : Str) = some (.ref (He.ga K "_law_price")) := let ⟨_, X, G⟩ := Z.c; He.glo_ok X G (Z.s.fact 31 (by rfl))
theorem Zc.g_L_spelled (Z : Zc K mg) : mg ("_law_spelled" : Str) = some (.ref (He.ga K "_law_spelled")) := let ⟨_, X, G⟩ := Z.c; He.glo_ok X G (Z.s.fact 32 (by rfl))
theorem Zc.g_L_tide (Z : Zc K mg) : mg ("_law_tide" : Str) = some (.ref (He.ga K "_law_tide")) := let ⟨_, X, G⟩ := Z.c; He.glo_ok X G (Z.s.fact 33 (by rfl))
theorem Zc.g_L_worst (Z : Zc K mg) : mg ("_law_worst" : Str) = some (.ref (He.ga K "_law_worst")) := let ⟨_, X, G⟩ := Z.c; He.glo_ok X G (Z.s.fact 34 (by rfl))
theorem Zc.g_alone_cost (Z : Zc K mg) : mg ("alone_cost" : Str) = some (.ref (He.ga K "alone_cost")) := let ⟨_, X, G⟩ := Z.c; He.glo_ok X G (Z.s.fact 35 (by rfl))
theorem Zc.g_are_deeds (Z : Zc K mg) : mg ("are_deeds" : Str) = some (.ref (He.ga K "are_deeds")) := let ⟨_, X, G⟩ := Z.c; He.glo_ok X G (Z.s.fact 36 (by rfl))
theorem Zc.g_are_within (Z : Zc K mg) : mg ("are_within" : Str) = some (.ref (He.ga K "are_within")) := let ⟨_, X, G⟩ := Z.c; He.glo_ok X G (Z.s.fact 37 (by rfl))
theorem Zc.g_are_words (Z : Zc K mg) : mg ("are_words" : Str) = some (.ref (He.ga K "are_words")) := let ⟨_, X, G⟩ := Z.c; He.glo_ok X G (Z.s.fact 38 (by rfl))
theorem Zc.g_behind (Z : Zc K mg) : mg ("behind" : Str) = some (.ref (He.ga K "behind")) := let ⟨_, X, G⟩ := Z.c; He.glo_ok X G (Z.s.fact 39 (by rfl))
theorem Zc.g_best_begins (Z : Zc K mg) : mg ("best_begins" : Str) = some (.ref (He.ga K "best_begins")) := let ⟨_, X, G⟩ := Z.c; He.glo_ok X G (Z.s.fact 40 (by rfl))
theorem Zc.g_border_cost (Z : Zc K mg) : mg ("border_cost" : Str) = some (.ref (He.ga K "border_cost")) := let ⟨_, X, G⟩ := Z.c; He.glo_ok X G (Z.s.fact 41 (by rfl))
theorem Zc.g_can_be_done (Z : Zc K mg) : mg ("can_be_done" : Str) = some (.ref (He.ga K "can_be_done")) := let ⟨_, X, G⟩ := Z.c; He.glo_ok X G (Z.s.fact 42 (by rfl))
theorem Zc.g_cheapest (Z : Zc K mg) : mg ("cheapest" : Str) = some (.ref (He.ga K "cheapest")) := let ⟨_, X, G⟩ := Z.c; He.glo_ok X G (Z.s.fact 43 (by rfl))
theorem Zc.g_copies_for (Z : Zc K mg) : mg ("copies_for" : Str) = some (.ref (He.ga K "copies_for")) := let ⟨_, X, G⟩ := Z.c; He.glo_ok X G (Z.s.fact 44 (by rfl))
theorem Zc.g_copies_told (Z : Zc K mg) : mg ("copies_told" : Str) = some (.ref (He.ga K "copies_told")) := let ⟨_, X, G⟩ := Z.c; He.glo_ok X G (Z.s.fact 45 (by rfl))
theorem Zc.g_damaged (Z : Zc K mg) : mg ("damaged" : Str) = some (.ref (He.ga K "damaged")) := let ⟨_, X, G⟩ := Z.c; He.glo_ok X G (Z.s.fact 46 (by rfl))
theorem Zc.g_done (Z : Zc K mg) : mg ("done" : Str) = some (.ref (He.ga K "done")) := let ⟨_, X, G⟩ := Z.c; He.glo_ok X G (Z.s.fact 47 (by rfl))
theorem Zc.g_end_of (Z : Zc K mg) : mg ("end_of" : Str) = some (.ref (He.ga K "end_of")) := let ⟨_, X, G⟩ := Z.c; He.glo_ok X G (Z.s.fact 48 (by rfl))
theorem Zc.g_ends_of (Z : Zc K mg) : mg ("ends_of" : Str) = some (.ref (He.ga K "ends_of")) := let ⟨_, X, G⟩ := Z.c; He.glo_ok X G (Z.s.fact 49 (by rfl))
theorem Zc.g_fits (Z : Zc K mg) : mg ("fits" : Str) = some (.ref (He.ga K "fits")) := let ⟨_, X, G⟩ := Z.c; He.glo_ok X G (Z.s.fact 50 (by rfl))
theorem Zc.g_fixed (Z : Zc K mg) : mg ("fixed" : Str) = some (.ref (He.ga K "fixed")) := let ⟨_, X, G⟩ := Z.c; He.glo_ok X G (Z.s.fact 51 (by rfl))
theorem Zc.g_is_back (Z : Zc K mg) : mg ("is_back" : Str) = some (.ref (He.ga K "is_back")) := let ⟨_, X, G⟩ := Z.c; He.glo_ok X G (Z.s.fact 52 (by rfl))
theorem Zc.g_is_cut (Z : Zc K mg) : mg ("is_cut" : Str) = some (.ref (He.ga K "is_cut")) := let ⟨_, X, G⟩ := Z.c; He.glo_ok X G (Z.s.fact 53 (by rfl))
theorem Zc.g_is_edit (Z : Zc K mg) : mg ("is_edit" : Str) = some (.ref (He.ga K "is_edit")) := let ⟨_, X, G⟩ := Z.c; He.glo_ok X G (Z.s.fact 54 (by rfl))
theorem Zc.g_is_integer (Z : Zc K mg) : mg ("is_integer" : Str) = some (.ref (He.ga K "is_integer")) := let ⟨_, X, G⟩ := Z.c; He.glo_ok X G (Z.s.fact 55 (by rfl))
theorem Zc.g_is_sign (Z : Zc K mg) : mg ("is_sign" : Str) = some (.ref (He.ga K "is_sign")) := let ⟨_, X, G⟩ := Z.c; He.glo_ok X G (Z.s.fact 56 (by rfl))
theorem Zc.g_is_text (Z : Zc K mg) : mg ("is_text" : Str) = some (.ref (He.ga K "is_text")) := let ⟨_, X, G⟩ := Z.c; He.glo_ok X G (Z.s.fact 57 (by rfl))
theorem Zc.g_is_within (Z : Zc K mg) : mg ("is_within" : Str) = some (.ref (He.ga K "is_within")) := let ⟨_, X, G⟩ := Z.c; He.glo_ok X G (Z.s.fact 58 (by rfl))
theorem Zc.g_is_word (Z : Zc K mg) : mg ("is_word" : Str) = some (.ref (He.ga K "is_word")) := let ⟨_, X, G⟩ := Z.c; He.glo_ok X G (Z.s.fact 59 (by rfl))
theorem Zc.g_judged_machine (Z : Zc K mg) : mg ("judged_machine" : Str) = some (.ref (He.ga K "judged_machine")) := let ⟨_, X, G⟩ := Z.c; He.glo_ok X G (Z.s.fact 60 (by rfl))
theorem Zc.g_judged_text (Z : Zc K mg) : mg ("judged_text" : Str) = some (.ref (He.ga K "judged_text")) := let ⟨_, X, G⟩ := Z.c; He.glo_ok X G (Z.s.fact 61 (by rfl))
theorem Zc.g_law (Z : Zc K mg) : mg ("law" : Str) = some (.ref (He.ga K "law")) := let ⟨_, X, G⟩ := Z.c; He.glo_ok X G (Z.s.fact 62 (by rfl))
theorem Zc.g_made_words (Z : Zc K mg) : mg ("made_words" : Str) = some (.ref (He.ga K "made_words")) := let ⟨_, X, G⟩ := Z.c; He.glo_ok X G (Z.s.fact 63 (by rfl))
theorem Zc.g_need_asked (Z : Zc K mg) : mg ("need_asked" : Str) = some (.ref (He.ga K "need_asked")) := let ⟨_, X, G⟩ := Z.c; He.glo_ok X G (Z.s.fact 64 (by rfl))
theorem Zc.g_need_book (Z : Zc K mg) : mg ("need_book" : Str) = some (.ref (He.ga K "need_book")) := let ⟨_, X, G⟩ := Z.c; He.glo_ok X G (Z.s.fact 65 (by rfl))
theorem Zc.g_need_copies (Z : Zc K mg) : mg ("need_copies" : Str) = some (.ref (He.ga K "need_copies")) := let ⟨_, X, G⟩ := Z.c; He.glo_ok X G (Z.s.fact 66 (by rfl))
theorem Zc.g_need_edits (Z : Zc K mg) : mg ("need_edits" : Str) = some (.ref (He.ga K "need_edits")) := let ⟨_, X, G⟩ := Z.c; He.glo_ok X G (Z.s.fact 67 (by rfl))
theorem Zc.g_need_lets (Z : Zc K mg) : mg ("need_lets" : Str) = some (.ref (He.ga K "need_lets")) := let ⟨_, X, G⟩ := Z.c; He.glo_ok X G (Z.s.fact 68 (by rfl))
theorem Zc.g_need_machine (Z : Zc K mg) : mg ("need_machine" : Str) = some (.ref (He.ga K "need_machine")) := let ⟨_, X, G⟩ := Z.c; He.glo_ok X G (Z.s.fact 69 (by rfl))
theorem Zc.g_need_number (Z : Zc K mg) : mg ("need_number" : Str) = some (.ref (He.ga K "need_number")) := let ⟨_, X, G⟩ := Z.c; He.glo_ok X G (Z.s.fact 70 (by rfl))
theorem Zc.g_need_row (Z : Zc K mg) : mg ("need_row" : Str) = some (.ref (He.ga K "need_row")) := let ⟨_, X, G⟩ := Z.c; He.glo_ok X G (Z.s.fact 71 (by rfl))
theorem Zc.g_need_text (Z : Zc K mg) : mg ("need_text" : Str) = some (.ref (He.ga K "need_text")) := let ⟨_, X, G⟩ := Z.c; He.glo_ok X G (Z.s.fact 72 (by rfl))
theorem Zc.g_parted (Z : Zc K mg) : mg ("parted" : Str) = some (.ref (He.ga K "parted")) := let ⟨_, X, G⟩ := Z.c; He.glo_ok X G (Z.s.fact 73 (by rfl))
theorem Zc.g_price (Z : Zc K mg) : mg ("price" : Str) = some (.ref (He.ga K "price")) := let ⟨_, X, G⟩ := Z.c; He.glo_ok X G (Z.s.fact 74 (by rfl))
theorem Zc.g_raised (Z : Zc K mg) : mg ("raised" : Str) = some (.ref (He.ga K "raised")) := let ⟨_, X, G⟩ := Z.c; He.glo_ok X G (Z.s.fact 75 (by rfl))
theorem Zc.g_row_in (Z : Zc K mg) : mg ("row_in" : Str) = some (.ref (He.ga K "row_in")) := let ⟨_, X, G⟩ := Z.c; He.glo_ok X G (Z.s.fact 76 (by rfl))
theorem Zc.g_rows_asked (Z : Zc K mg) : mg ("rows_asked" : Str) = some (.ref (He.ga K "rows_asked")) := let ⟨_, X, G⟩ := Z.c; He.glo_ok X G (Z.s.fact 77 (by rfl))
theorem Zc.g_settles (Z : Zc K mg) : mg ("settles" : Str) = some (.ref (He.ga K "settles")) := let ⟨_, X, G⟩ := Z.c; He.glo_ok X G (Z.s.fact 78 (by rfl))
theorem Zc.g_settling (Z : Zc K mg) : mg ("settling" : Str) = some (.ref (He.ga K "settling")) := let ⟨_, X, G⟩ := Z.c; He.glo_ok X G (Z.s.fact 79 (by rfl))
theorem Zc.g_side_costs (Z : Zc K mg) : mg ("side_costs" : Str) = some (.ref (He.ga K "side_costs")) := let ⟨_, X, G⟩ := Z.c; He.glo_ok X G (Z.s.fact 80 (by rfl))
theorem Zc.g_spelled (Z : Zc K mg) : mg ("spelled" : Str) = some (.ref (He.ga K "spelled")) := let ⟨_, X, G⟩ := Z.c; He.glo_ok X G (Z.s.fact 81 (by rfl))
theorem Zc.g_text_in (Z : Zc K mg) : mg ("text_in" : Str) = some (.ref (He.ga K "text_in")) := let ⟨_, X, G⟩ := Z.c; He.glo_ok X G (Z.s.fact 82 (by rfl))
theorem Zc.g_triples_of (Z : Zc K mg) : mg ("triples_of" : Str) = some (.ref (He.ga K "triples_of")) := let ⟨_, X, G⟩ := Z.c; He.glo_ok X G (Z.s.fact 83 (by rfl))
theorem Zc.g_without (Z : Zc K mg) : mg ("without" : Str) = some (.ref (He.ga K "without")) := let ⟨_, X, G⟩ := Z.c; He.glo_ok X G (Z.s.fact 84 (by rfl))
theorem Zc.f_abs (Z : Zc K mg) : mg ("abs" : Str) = none := let ⟨_, X, G⟩ := Z.c; He.free_ok X G (Z.s.fact 85 (by rfl))
theorem Zc.f_all (Z : Zc K mg) : mg ("all" : Str) = none := let ⟨_, X, G⟩ := Z.c; He.free_ok X G (Z.s.fact 86 (by rfl))
theorem Zc.f_any (Z : Zc K mg) : mg ("any" : Str) = none := let ⟨_, X, G⟩ := Z.c; He.free_ok X G (Z.s.fact 87 (by rfl))
theorem Zc.f_bool (Z : Zc K mg) : mg ("bool" : Str) = none := let ⟨_, X, G⟩ := Z.c; He.free_ok X G (Z.s.fact 88 (by rfl))
theorem Zc.f_enumerate (Z : Zc K mg) : mg ("enumerate" : Str) = none := let ⟨_, X, G⟩ := Z.c; He.free_ok X G (Z.s.fact 89 (by rfl))
theorem Zc.f_int (Z : Zc K mg) : mg ("int" : Str) = none := let ⟨_, X, G⟩ := Z.c; He.free_ok X G (Z.s.fact 90 (by rfl))
theorem Zc.f_isinstance (Z : Zc K mg) : mg ("isinstance" : Str) = none := let ⟨_, X, G⟩ := Z.c; He.free_ok X G (Z.s.fact 91 (by rfl))
theorem Zc.f_len (Z : Zc K mg) : mg ("len" : Str) = none := let ⟨_, X, G⟩ := Z.c; He.free_ok X G (Z.s.fact 92 (by rfl))
theorem Zc.f_list (Z : Zc K mg) : mg ("list" : Str) = none := let ⟨_, X, G⟩ := Z.c; He.free_ok X G (Z.s.fact 93 (by rfl))
theorem Zc.f_max (Z : Zc K mg) : mg ("max" : Str) = none := let ⟨_, X, G⟩ := Z.c; He.free_ok X G (Z.s.fact 94 (by rfl))
theorem Zc.f_min (Z : Zc K mg) : mg ("min" : Str) = none := let ⟨_, X, G⟩ := Z.c; He.free_ok X G (Z.s.fact 95 (by rfl))
theorem Zc.f_range (Z : Zc K mg) : mg ("range" : Str) = none := let ⟨_, X, G⟩ := Z.c; He.free_ok X G (Z.s.fact 96 (by rfl))
theorem Zc.f_set (Z : Zc K mg) : mg ("set" : Str) = none := let ⟨_, X, G⟩ := Z.c; He.free_ok X G (Z.s.fact 97 (by rfl))
theorem Zc.f_str (Z : Zc K mg) : mg ("str" : Str) = none := let ⟨_, X, G⟩ := Z.c; He.free_ok X G (Z.s.fact 98 (by rfl))
theorem Zc.f_sum (Z : Zc K mg) : mg ("sum" : Str) = none := let ⟨_, X, G⟩ := Z.c; He.free_ok X G (Z.s.fact 99 (by rfl))
theorem Zc.f_tuple (Z : Zc K mg) : mg ("tuple" : Str) = none := let ⟨_, X, G⟩ := Z.c; He.free_ok X G (Z.s.fact 100 (by rfl))
theorem Zc.c_BLANK (Z : Zc K mg) : ∃ t, mg ("BLANK" : Str) = some (.str " " t) := let ⟨_, X, G⟩ := Z.c; He.str_ok X G (Z.s.fact 101 (by rfl))
theorem Zc.c_CHANGED (Z : Zc K mg) : ∃ t, mg ("CHANGED" : Str) = some (.str "changed" t) := let ⟨_, X, G⟩ := Z.c; He.str_ok X G (Z.s.fact 102 (by rfl))
theorem Zc.c_LETTERS (Z : Zc K mg) : ∃ t, mg ("LETTERS" : Str) = some (.str "abcdefghijklmnopqrstuvwxyz" t) := let ⟨_, X, G⟩ := Z.c; He.str_ok X G (Z.s.fact 103 (by rfl))
theorem Zc.c_LOST (Z : Zc K mg) : ∃ t, mg ("LOST" : Str) = some (.str "lost" t) := let ⟨_, X, G⟩ := Z.c; He.str_ok X G (Z.s.fact 104 (by rfl))
theorem Zc.c_PUT (Z : Zc K mg) : ∃ t, mg ("PUT" : Str) = some (.str "put" t) := let ⟨_, X, G⟩ := Z.c; He.str_ok X G (Z.s.fact 105 (by rfl))
theorem Zc.c_SIGNS (Z : Zc K mg) : ∃ t, mg ("SIGNS" : Str) = some (.str "abcdefghijklmnopqrstuvwxyz " t) := let ⟨_, X, G⟩ := Z.c; He.str_ok X G (Z.s.fact 106 (by rfl))
theorem Zc.c_MOST_COPIES_books (Z : Zc K mg) : ∃ t, mg ("MOST_COPIES_books" : Str) = some (.int 12 t) := let ⟨_, X, G⟩ := Z.c; He.int_ok X G (Z.s.fact 107 (by rfl))
theorem Zc.c_MOST_COPIES_copies (Z : Zc K mg) : ∃ t, mg ("MOST_COPIES_copies" : Str) = some (.int 12 t) := let ⟨_, X, G⟩ := Z.c; He.int_ok X G (Z.s.fact 108 (by rfl))
theorem Zc.c_MOST_EDITS_copies (Z : Zc K mg) : ∃ t, mg ("MOST_EDITS_copies" : Str) = some (.int 3 t) := let ⟨_, X, G⟩ := Z.c; He.int_ok X G (Z.s.fact 109 (by rfl))
theorem Zc.c_MOST_EDITS_edits (Z : Zc K mg) : ∃ t, mg ("MOST_EDITS_edits" : Str) = some (.int 12 t) := let ⟨_, X, G⟩ := Z.c; He.int_ok X G (Z.s.fact 110 (by rfl))
theorem Zc.c_MOST_LETTERS (Z : Zc K mg) : ∃ t, mg ("MOST_LETTERS" : Str) = some (.int 12 t) := let ⟨_, X, G⟩ := Z.c; He.int_ok X G (Z.s.fact 111 (by rfl))
theorem Zc.c_MOST_MADE (Z : Zc K mg) : ∃ t, mg ("MOST_MADE" : Str) = some (.int 4 t) := let ⟨_, X, G⟩ := Z.c; He.int_ok X G (Z.s.fact 112 (by rfl))
theorem Zc.c_MOST_NUMBERS (Z : Zc K mg) : ∃ t, mg ("MOST_NUMBERS" : Str) = some (.int 10000 t) := let ⟨_, X, G⟩ := Z.c; He.int_ok X G (Z.s.fact 113 (by rfl))
theorem Zc.c_MOST_SIGNS (Z : Zc K mg) : ∃ t, mg ("MOST_SIGNS" : Str) = some (.int 200000 t) := let ⟨_, X, G⟩ := Z.c; He.int_ok X G (Z.s.fact 114 (by rfl))
theorem Zc.c_MOST_STATES (Z : Zc K mg) : ∃ t, mg ("MOST_STATES" : Str) = some (.int 40 t) := let ⟨_, X, G⟩ := Z.c; He.int_ok X G (Z.s.fact 115 (by rfl))
theorem Zc.c_MOST_WORDS (Z : Zc K mg) : ∃ t, mg ("MOST_WORDS" : Str) = some (.int 40 t) := let ⟨_, X, G⟩ := Z.c; He.int_ok X G (Z.s.fact 116 (by rfl))
theorem Zc.cls_Book (Z : Zc K mg) : Cls K (He.ga K "Book") := He.cls_ok (Z.s.fact 117 (by rfl))
theorem Zc.na_Book_words (Z : Zc K mg) : NoAttr K (He.ga K "Book") "words" := He.noat_ok (Z.s.fact 118 (by rfl))
theorem Zc.cls_Machine (Z : Zc K mg) : Cls K (He.ga K "Machine") := He.cls_ok (Z.s.fact 119 (by rfl))
theorem Zc.na_Machine_book (Z : Zc K mg) : NoAttr K (He.ga K "Machine") "book" := He.noat_ok (Z.s.fact 120 (by rfl))
theorem Zc.na_Machine_deeds (Z : Zc K mg) : NoAttr K (He.ga K "Machine") "deeds" := He.noat_ok (Z.s.fact 121 (by rfl))
theorem Zc.na_Machine_states (Z : Zc K mg) : NoAttr K (He.ga K "Machine") "states" := He.noat_ok (Z.s.fact 122 (by rfl))
theorem Zc.cls_Paper (Z : Zc K mg) : Cls K (He.ga K "Paper") := He.cls_ok (Z.s.fact 123 (by rfl))
theorem Zc.cls_Costs (Z : Zc K mg) : Cls K (He.ga K "Costs") := He.cls_ok (Z.s.fact 124 (by rfl))
theorem Zc.na_Costs_words (Z : Zc K mg) : NoAttr K (He.ga K "Costs") "words" := He.noat_ok (Z.s.fact 125 (by rfl))
theorem Zc.na_Costs_alone (Z : Zc K mg) : NoAttr K (He.ga K "Costs") "alone" := He.noat_ok (Z.s.fact 126 (by rfl))
theorem Zc.na_Costs_ahead (Z : Zc K mg) : NoAttr K (He.ga K "Costs") "ahead" := He.noat_ok (Z.s.fact 127 (by rfl))
theorem Zc.na_Costs_behind (Z : Zc K mg) : NoAttr K (He.ga K "Costs") "behind" := He.noat_ok (Z.s.fact 128 (by rfl))
theorem Zc.cls_Walk (Z : Zc K mg) : Cls K (He.ga K "Walk") := He.cls_ok (Z.s.fact 129 (by rfl))
theorem Zc.na_Walk_machine (Z : Zc K mg) : NoAttr K (He.ga K "Walk") "machine" := He.noat_ok (Z.s.fact 130 (by rfl))
theorem Zc.na_Walk_many (Z : Zc K mg) : NoAttr K (He.ga K "Walk") "many" := He.noat_ok (Z.s.fact 131 (by rfl))
theorem Zc.na_Walk_numbers (Z : Zc K mg) : NoAttr K (He.ga K "Walk") "numbers" := He.noat_ok (Z.s.fact 132 (by rfl))
theorem Zc.na_Walk_begins (Z : Zc K mg) : NoAttr K (He.ga K "Walk") "begins" := He.noat_ok (Z.s.fact 133 (by rfl))
theorem Zc.na_Walk_tried (Z : Zc K mg) : NoAttr K (He.ga K "Walk") "tried" := He.noat_ok (Z.s.fact 134 (by rfl))
theorem Zc.cls_Lets (Z : Zc K mg) : Cls K (He.ga K "Lets") := He.cls_ok (Z.s.fact 135 (by rfl))
theorem Zc.na_Lets_word (Z : Zc K mg) : NoAttr K (He.ga K "Lets") "word" := He.noat_ok (Z.s.fact 136 (by rfl))
theorem Zc.na_Lets_parts (Z : Zc K mg) : NoAttr K (He.ga K "Lets") "parts" := He.noat_ok (Z.s.fact 137 (by rfl))
theorem Zc.cls_Copies (Z : Zc K mg) : Cls K (He.ga K "Copies") := He.cls_ok (Z.s.fact 138 (by rfl))
theorem Zc.na_Copies_word (Z : Zc K mg) : NoAttr K (He.ga K "Copies") "word" := He.noat_ok (Z.s.fact 139 (by rfl))
theorem Zc.na_Copies_parts (Z : Zc K mg) : NoAttr K (He.ga K "Copies") "parts" := He.noat_ok (Z.s.fact 140 (by rfl))
theorem Zc.na_Copies_numbers (Z : Zc K mg) : NoAttr K (He.ga K "Copies") "numbers" := He.noat_ok (Z.s.fact 141 (by rfl))
theorem Zc.cls_Stands (Z : Zc K mg) : Cls K (He.ga K "Stands") := He.cls_ok (Z.s.fact 142 (by rfl))
theorem Zc.na_Stands_word (Z : Zc K mg) : NoAttr K (He.ga K "Stands") "word" := He.noat_ok (Z.s.fact 143 (by rfl))
theorem Zc.na_Stands_parts (Z : Zc K mg) : NoAttr K (He.ga K "Stands") "parts" := He.noat_ok (Z.s.fact 144 (by rfl))
theorem Zc.cls_Parts (Z : Zc K mg) : Cls K (He.ga K "Parts") := He.cls_ok (Z.s.fact 145 (by rfl))
theorem Zc.na_Parts_word (Z : Zc K mg) : NoAttr K (He.ga K "Parts") "word" := He.noat_ok (Z.s.fact 146 (by rfl))
theorem Zc.na_Parts_parts (Z : Zc K mg) : NoAttr K (He.ga K "Parts") "parts" := He.noat_ok (Z.s.fact 147 (by rfl))
theorem Zc.na_Parts_row (Z : Zc K mg) : NoAttr K (He.ga K "Parts") "row" := He.noat_ok (Z.s.fact 148 (by rfl))
theorem Zc.na_Parts_start (Z : Zc K mg) : NoAttr K (He.ga K "Parts") "start" := He.noat_ok (Z.s.fact 149 (by rfl))
theorem Zc.na_Parts_edits (Z : Zc K mg) : NoAttr K (He.ga K "Parts") "edits" := He.noat_ok (Z.s.fact 150 (by rfl))
theorem Zc.me_Machine_done (Z : Zc K mg) : Meth K (He.ga K "Machine") "done" (He.ma K (He.ga K "Machine") "done") := He.meth_ok (Z.s.fact 151 (by rfl))
theorem Zc.me_Machine_done_text (Z : Zc K mg) : Meth K (He.ga K "Machine") "done_text" (He.ma K (He.ga K "Machine") "done_text") := He.meth_ok (Z.s.fact 152 (by rfl))
theorem Zc.me_Costs_of (Z : Zc K mg) : Meth K (He.ga K "Costs") "of" (He.ma K (He.ga K "Costs") "of") := He.meth_ok (Z.s.fact 153 (by rfl))
theorem Zc.me_Costs_over (Z : Zc K mg) : Meth K (He.ga K "Costs") "over" (He.ma K (He.ga K "Costs") "over") := He.meth_ok (Z.s.fact 154 (by rfl))
theorem Zc.me_Costs_triple (Z : Zc K mg) : Meth K (He.ga K "Costs") "triple" (He.ma K (He.ga K "Costs") "triple") := He.meth_ok (Z.s.fact 155 (by rfl))
theorem Zc.me_Walk_tries_at (Z : Zc K mg) : Meth K (He.ga K "Walk") "tries_at" (He.ma K (He.ga K "Walk") "tries_at") := He.meth_ok (Z.s.fact 156 (by rfl))
theorem Zc.mk_Book (Z : Zc K mg) : Mk K (He.ga K "Book") (He.ma K (He.ga K "Book") "__init__") := He.mkr_ok (Z.s.fact 157 (by rfl))
theorem Zc.mk_Machine (Z : Zc K mg) : Mk K (He.ga K "Machine") (He.ma K (He.ga K "Machine") "__init__") := He.mkr_ok (Z.s.fact 158 (by rfl))
theorem Zc.mk_Costs (Z : Zc K mg) : Mk K (He.ga K "Costs") (He.ma K (He.ga K "Costs") "__init__") := He.mkr_ok (Z.s.fact 159 (by rfl))
theorem Zc.mk_Walk (Z : Zc K mg) : Mk K (He.ga K "Walk") (He.ma K (He.ga K "Walk") "__init__") := He.mkr_ok (Z.s.fact 160 (by rfl))
theorem Zc.in_Book (Z : Zc K mg) : InsF K (He.ga K "Book") := have h := Z.o.ins "Book" (by decide +kernel); ⟨Z.cls_Book, h.1, h.2.1, h.2.2.1, h.2.2.2⟩
theorem Zc.in_Machine (Z : Zc K mg) : InsF K (He.ga K "Machine") := have h := Z.o.ins "Machine" (by decide +kernel); ⟨Z.cls_Machine, h.1, h.2.1, h.2.2.1, h.2.2.2⟩
theorem Zc.in_Parts (Z : Zc K mg) : InsF K (He.ga K "Parts") := have h := Z.o.ins "Parts" (by decide +kernel); ⟨Z.cls_Parts, h.1, h.2.1, h.2.2.1, h.2.2.2⟩
theorem Zc.in_Copies (Z : Zc K mg) : InsF K (He.ga K "Copies") := have h := Z.o.ins "Copies" (by decide +kernel); ⟨Z.cls_Copies, h.1, h.2.1, h.2.2.1, h.2.2.2⟩
theorem Zc.in_Lets (Z : Zc K mg) : InsF K (He.ga K "Lets") := have h := Z.o.ins "Lets" (by decide +kernel); ⟨Z.cls_Lets, h.1, h.2.1, h.2.2.1, h.2.2.2⟩
theorem Zc.in_Stands (Z : Zc K mg) : InsF K (He.ga K "Stands") := have h := Z.o.ins "Stands" (by decide +kernel); ⟨Z.cls_Stands, h.1, h.2.1, h.2.2.1, h.2.2.2⟩
theorem Zc.kit_Book_Book (Z : Zc K mg) : PySem.W.kitOne K (.ref (He.ga K "Book")) (.ref (He.ga K "Book")) = some true := Z.o.kit ("Book", "Book") (by decide +kernel)
theorem Zc.kit_Machine_Machine (Z : Zc K mg) : PySem.W.kitOne K (.ref (He.ga K "Machine")) (.ref (He.ga K "Machine")) = some true := Z.o.kit ("Machine", "Machine") (by decide +kernel)
theorem Zc.kit_Parts_Parts (Z : Zc K mg) : PySem.W.kitOne K (.ref (He.ga K "Parts")) (.ref (He.ga K "Parts")) = some true := Z.o.kit ("Parts", "Parts") (by decide +kernel)
theorem Zc.kit_Copies_Paper (Z : Zc K mg) : PySem.W.kitOne K (.ref (He.ga K "Copies")) (.ref (He.ga K "Paper")) = some true := Z.o.kit ("Copies", "Paper") (by decide +kernel)
theorem Zc.kit_Lets_Paper (Z : Zc K mg) : PySem.W.kitOne K (.ref (He.ga K "Lets")) (.ref (He.ga K "Paper")) = some true := Z.o.kit ("Lets", "Paper") (by decide +kernel)
theorem Zc.kit_Stands_Paper (Z : Zc K mg) : PySem.W.kitOne K (.ref (He.ga K "Stands")) (.ref (He.ga K "Paper")) = some true := Z.o.kit ("Stands", "Paper") (by decide +kernel)
theorem Zc.d_is_integer (Z : Zc K mg) : ∃ fd, FunD K D_is_integer.name D_is_integer.qual (defArgs s_is_integer) (defBody s_is_integer) (defScope s_is_integer) (D_is_integer.dvs K) (D_is_integer.kws K) (He.fAd K D_is_integer.at_) fd := Z.s.def_ 0 (by rfl)
theorem Zc.d_is_within (Z : Zc K mg) : ∃ fd, FunD K D_is_within.name D_is_within.qual (defArgs s_is_within) (defBody s_is_within) (defScope s_is_within) (D_is_within.dvs K) (D_is_within.kws K) (He.fAd K D_is_within.at_) fd := Z.s.def_ 1 (by rfl)
theorem Zc.d_are_within (Z : Zc K mg) : ∃ fd, FunD K D_are_within.name D_are_within.qual (defArgs s_are_within) (defBody s_are_within) (defScope s_are_within) (D_are_within.dvs K) (D_are_within.kws K) (He.fAd K D_are_within.at_) fd := Z.s.def_ 2 (by rfl)
theorem Zc.d_is_word (Z : Zc K mg) : ∃ fd, FunD K D_is_word.name D_is_word.qual (defArgs s_is_word) (defBody s_is_word) (defScope s_is_word) (D_is_word.dvs K) (D_is_word.kws K) (He.fAd K D_is_word.at_) fd := Z.s.def_ 3 (by rfl)
theorem Zc.d_is_sign (Z : Zc K mg) : ∃ fd, FunD K D_is_sign.name D_is_sign.qual (defArgs s_is_sign) (defBody s_is_sign) (defScope s_is_sign) (D_is_sign.dvs K) (D_is_sign.kws K) (He.fAd K D_is_sign.at_) fd := Z.s.def_ 4 (by rfl)
theorem Zc.d_is_text (Z : Zc K mg) : ∃ fd, FunD K D_is_text.name D_is_text.qual (defArgs s_is_text) (defBody s_is_text) (defScope s_is_text) (D_is_text.dvs K) (D_is_text.kws K) (He.fAd K D_is_text.at_) fd := Z.s.def_ 5 (by rfl)
theorem Zc.d_need_number (Z : Zc K mg) : ∃ fd, FunD K D_need_number.name D_need_number.qual (defArgs s_need_number) (defBody s_need_number) (defScope s_need_number) (D_need_number.dvs K) (D_need_number.kws K) (He.fAd K D_need_number.at_) fd := Z.s.def_ 6 (by rfl)
theorem Zc.d_need_text (Z : Zc K mg) : ∃ fd, FunD K D_need_text.name D_need_text.qual (defArgs s_need_text) (defBody s_need_text) (defScope s_need_text) (D_need_text.dvs K) (D_need_text.kws K) (He.fAd K D_need_text.at_) fd := Z.s.def_ 7 (by rfl)
theorem Zc.d_is_edit (Z : Zc K mg) : ∃ fd, FunD K D_is_edit.name D_is_edit.qual (defArgs s_is_edit) (defBody s_is_edit) (defScope s_is_edit) (D_is_edit.dvs K) (D_is_edit.kws K) (He.fAd K D_is_edit.at_) fd := Z.s.def_ 8 (by rfl)
theorem Zc.d_can_be_done (Z : Zc K mg) : ∃ fd, FunD K D_can_be_done.name D_can_be_done.qual (defArgs s_can_be_done) (defBody s_can_be_done) (defScope s_can_be_done) (D_can_be_done.dvs K) (D_can_be_done.kws K) (He.fAd K D_can_be_done.at_) fd := Z.s.def_ 9 (by rfl)
theorem Zc.d_done (Z : Zc K mg) : ∃ fd, FunD K D_done.name D_done.qual (defArgs s_done) (defBody s_done) (defScope s_done) (D_done.dvs K) (D_done.kws K) (He.fAd K D_done.at_) fd := Z.s.def_ 10 (by rfl)
theorem Zc.d_behind (Z : Zc K mg) : ∃ fd, FunD K D_behind.name D_behind.qual (defArgs s_behind) (defBody s_behind) (defScope s_behind) (D_behind.dvs K) (D_behind.kws K) (He.fAd K D_behind.at_) fd := Z.s.def_ 11 (by rfl)
theorem Zc.d_fits (Z : Zc K mg) : ∃ fd, FunD K D_fits.name D_fits.qual (defArgs s_fits) (defBody s_fits) (defScope s_fits) (D_fits.dvs K) (D_fits.kws K) (He.fAd K D_fits.at_) fd := Z.s.def_ 12 (by rfl)
theorem Zc.d_need_edits (Z : Zc K mg) : ∃ fd, FunD K D_need_edits.name D_need_edits.qual (defArgs s_need_edits) (defBody s_need_edits) (defScope s_need_edits) (D_need_edits.dvs K) (D_need_edits.kws K) (He.fAd K D_need_edits.at_) fd := Z.s.def_ 13 (by rfl)
theorem Zc.d_damaged (Z : Zc K mg) : ∃ fd, FunD K D_damaged.name D_damaged.qual (defArgs s_damaged) (defBody s_damaged) (defScope s_damaged) (D_damaged.dvs K) (D_damaged.kws K) (He.fAd K D_damaged.at_) fd := Z.s.def_ 14 (by rfl)
theorem Zc.d_are_words (Z : Zc K mg) : ∃ fd, FunD K D_are_words.name D_are_words.qual (defArgs s_are_words) (defBody s_are_words) (defScope s_are_words) (D_are_words.dvs K) (D_are_words.kws K) (He.fAd K D_are_words.at_) fd := Z.s.def_ 15 (by rfl)
theorem Zc.d_need_book (Z : Zc K mg) : ∃ fd, FunD K D_need_book.name D_need_book.qual (defArgs s_need_book) (defBody s_need_book) (defScope s_need_book) (D_need_book.dvs K) (D_need_book.kws K) (He.fAd K D_need_book.at_) fd := Z.s.def_ 16 (by rfl)
theorem Zc.d_need_row (Z : Zc K mg) : ∃ fd, FunD K D_need_row.name D_need_row.qual (defArgs s_need_row) (defBody s_need_row) (defScope s_need_row) (D_need_row.dvs K) (D_need_row.kws K) (He.fAd K D_need_row.at_) fd := Z.s.def_ 17 (by rfl)
theorem Zc.d_need_copies (Z : Zc K mg) : ∃ fd, FunD K D_need_copies.name D_need_copies.qual (defArgs s_need_copies) (defBody s_need_copies) (defScope s_need_copies) (D_need_copies.dvs K) (D_need_copies.kws K) (He.fAd K D_need_copies.at_) fd := Z.s.def_ 18 (by rfl)
theorem Zc.d_text_in (Z : Zc K mg) : ∃ fd, FunD K D_text_in.name D_text_in.qual (defArgs s_text_in) (defBody s_text_in) (defScope s_text_in) (D_text_in.dvs K) (D_text_in.kws K) (He.fAd K D_text_in.at_) fd := Z.s.def_ 19 (by rfl)
theorem Zc.d_row_in (Z : Zc K mg) : ∃ fd, FunD K D_row_in.name D_row_in.qual (defArgs s_row_in) (defBody s_row_in) (defScope s_row_in) (D_row_in.dvs K) (D_row_in.kws K) (He.fAd K D_row_in.at_) fd := Z.s.def_ 20 (by rfl)
theorem Zc.d_spelled (Z : Zc K mg) : ∃ fd, FunD K D_spelled.name D_spelled.qual (defArgs s_spelled) (defBody s_spelled) (defScope s_spelled) (D_spelled.dvs K) (D_spelled.kws K) (He.fAd K D_spelled.at_) fd := Z.s.def_ 21 (by rfl)
theorem Zc.d_are_deeds (Z : Zc K mg) : ∃ fd, FunD K D_are_deeds.name D_are_deeds.qual (defArgs s_are_deeds) (defBody s_are_deeds) (defScope s_are_deeds) (D_are_deeds.dvs K) (D_are_deeds.kws K) (He.fAd K D_are_deeds.at_) fd := Z.s.def_ 22 (by rfl)
theorem Zc.d_need_machine (Z : Zc K mg) : ∃ fd, FunD K D_need_machine.name D_need_machine.qual (defArgs s_need_machine) (defBody s_need_machine) (defScope s_need_machine) (D_need_machine.dvs K) (D_need_machine.kws K) (He.fAd K D_need_machine.at_) fd := Z.s.def_ 23 (by rfl)
theorem Zc.d_end_of (Z : Zc K mg) : ∃ fd, FunD K D_end_of.name D_end_of.qual (defArgs s_end_of) (defBody s_end_of) (defScope s_end_of) (D_end_of.dvs K) (D_end_of.kws K) (He.fAd K D_end_of.at_) fd := Z.s.def_ 24 (by rfl)
theorem Zc.d_ends_of (Z : Zc K mg) : ∃ fd, FunD K D_ends_of.name D_ends_of.qual (defArgs s_ends_of) (defBody s_ends_of) (defScope s_ends_of) (D_ends_of.dvs K) (D_ends_of.kws K) (He.fAd K D_ends_of.at_) fd := Z.s.def_ 25 (by rfl)
theorem Zc.d_fixed (Z : Zc K mg) : ∃ fd, FunD K D_fixed.name D_fixed.qual (defArgs s_fixed) (defBody s_fixed) (defScope s_fixed) (D_fixed.dvs K) (D_fixed.kws K) (He.fAd K D_fixed.at_) fd := Z.s.def_ 26 (by rfl)
theorem Zc.d_is_cut (Z : Zc K mg) : ∃ fd, FunD K D_is_cut.name D_is_cut.qual (defArgs s_is_cut) (defBody s_is_cut) (defScope s_is_cut) (D_is_cut.dvs K) (D_is_cut.kws K) (He.fAd K D_is_cut.at_) fd := Z.s.def_ 27 (by rfl)
theorem Zc.d_copies_told (Z : Zc K mg) : ∃ fd, FunD K D_copies_told.name D_copies_told.qual (defArgs s_copies_told) (defBody s_copies_told) (defScope s_copies_told) (D_copies_told.dvs K) (D_copies_told.kws K) (He.fAd K D_copies_told.at_) fd := Z.s.def_ 28 (by rfl)
theorem Zc.d_best_begins (Z : Zc K mg) : ∃ fd, FunD K D_best_begins.name D_best_begins.qual (defArgs s_best_begins) (defBody s_best_begins) (defScope s_best_begins) (D_best_begins.dvs K) (D_best_begins.kws K) (He.fAd K D_best_begins.at_) fd := Z.s.def_ 29 (by rfl)
theorem Zc.d_raised (Z : Zc K mg) : ∃ fd, FunD K D_raised.name D_raised.qual (defArgs s_raised) (defBody s_raised) (defScope s_raised) (D_raised.dvs K) (D_raised.kws K) (He.fAd K D_raised.at_) fd := Z.s.def_ 30 (by rfl)
theorem Zc.d_alone_cost (Z : Zc K mg) : ∃ fd, FunD K D_alone_cost.name D_alone_cost.qual (defArgs s_alone_cost) (defBody s_alone_cost) (defScope s_alone_cost) (D_alone_cost.dvs K) (D_alone_cost.kws K) (He.fAd K D_alone_cost.at_) fd := Z.s.def_ 31 (by rfl)
theorem Zc.d_side_costs (Z : Zc K mg) : ∃ fd, FunD K D_side_costs.name D_side_costs.qual (defArgs s_side_costs) (defBody s_side_costs) (defScope s_side_costs) (D_side_costs.dvs K) (D_side_costs.kws K) (He.fAd K D_side_costs.at_) fd := Z.s.def_ 32 (by rfl)
theorem Zc.d_border_cost (Z : Zc K mg) : ∃ fd, FunD K D_border_cost.name D_border_cost.qual (defArgs s_border_cost) (defBody s_border_cost) (defScope s_border_cost) (D_border_cost.dvs K) (D_border_cost.kws K) (He.fAd K D_border_cost.at_) fd := Z.s.def_ 33 (by rfl)
theorem Zc.d_triples_of (Z : Zc K mg) : ∃ fd, FunD K D_triples_of.name D_triples_of.qual (defArgs s_triples_of) (defBody s_triples_of) (defScope s_triples_of) (D_triples_of.dvs K) (D_triples_of.kws K) (He.fAd K D_triples_of.at_) fd := Z.s.def_ 34 (by rfl)
theorem Zc.d_cheapest (Z : Zc K mg) : ∃ fd, FunD K D_cheapest.name D_cheapest.qual (defArgs s_cheapest) (defBody s_cheapest) (defScope s_cheapest) (D_cheapest.dvs K) (D_cheapest.kws K) (He.fAd K D_cheapest.at_) fd := Z.s.def_ 35 (by rfl)
theorem Zc.d_made_words (Z : Zc K mg) : ∃ fd, FunD K D_made_words.name D_made_words.qual (defArgs s_made_words) (defBody s_made_words) (defScope s_made_words) (D_made_words.dvs K) (D_made_words.kws K) (He.fAd K D_made_words.at_) fd := Z.s.def_ 36 (by rfl)
theorem Zc.d_price (Z : Zc K mg) : ∃ fd, FunD K D_price.name D_price.qual (defArgs s_price) (defBody s_price) (defScope s_price) (D_price.dvs K) (D_price.kws K) (He.fAd K D_price.at_) fd := Z.s.def_ 37 (by rfl)
theorem Zc.d_settling (Z : Zc K mg) : ∃ fd, FunD K D_settling.name D_settling.qual (defArgs s_settling) (defBody s_settling) (defScope s_settling) (D_settling.dvs K) (D_settling.kws K) (He.fAd K D_settling.at_) fd := Z.s.def_ 38 (by rfl)
theorem Zc.d_settles (Z : Zc K mg) : ∃ fd, FunD K D_settles.name D_settles.qual (defArgs s_settles) (defBody s_settles) (defScope s_settles) (D_settles.dvs K) (D_settles.kws K) (He.fAd K D_settles.at_) fd := Z.s.def_ 39 (by rfl)
theorem Zc.d_need_asked (Z : Zc K mg) : ∃ fd, FunD K D_need_asked.name D_need_asked.qual (defArgs s_need_asked) (defBody s_need_asked) (defScope s_need_asked) (D_need_asked.dvs K) (D_need_asked.kws K) (He.fAd K D_need_asked.at_) fd := Z.s.def_ 40 (by rfl)
theorem Zc.d_without (Z : Zc K mg) : ∃ fd, FunD K D_without.name D_without.qual (defArgs s_without) (defBody s_without) (defScope s_without) (D_without.dvs K) (D_without.kws K) (He.fAd K D_without.at_) fd := Z.s.def_ 41 (by rfl)
theorem Zc.d_parted (Z : Zc K mg) : ∃ fd, FunD K D_parted.name D_parted.qual (defArgs s_parted) (defBody s_parted) (defScope s_parted) (D_parted.dvs K) (D_parted.kws K) (He.fAd K D_parted.at_) fd := Z.s.def_ 42 (by rfl)
theorem Zc.d_copies_for (Z : Zc K mg) : ∃ fd, FunD K D_copies_for.name D_copies_for.qual (defArgs s_copies_for) (defBody s_copies_for) (defScope s_copies_for) (D_copies_for.dvs K) (D_copies_for.kws K) (He.fAd K D_copies_for.at_) fd := Z.s.def_ 43 (by rfl)
theorem Zc.d_judged_text (Z : Zc K mg) : ∃ fd, FunD K D_judged_text.name D_judged_text.qual (defArgs s_judged_text) (defBody s_judged_text) (defScope s_judged_text) (D_judged_text.dvs K) (D_judged_text.kws K) (He.fAd K D_judged_text.at_) fd := Z.s.def_ 44 (by rfl)
theorem Zc.d_need_lets (Z : Zc K mg) : ∃ fd, FunD K D_need_lets.name D_need_lets.qual (defArgs s_need_lets) (defBody s_need_lets) (defScope s_need_lets) (D_need_lets.dvs K) (D_need_lets.kws K) (He.fAd K D_need_lets.at_) fd := Z.s.def_ 45 (by rfl)
theorem Zc.d_rows_asked (Z : Zc K mg) : ∃ fd, FunD K D_rows_asked.name D_rows_asked.qual (defArgs s_rows_asked) (defBody s_rows_asked) (defScope s_rows_asked) (D_rows_asked.dvs K) (D_rows_asked.kws K) (He.fAd K D_rows_asked.at_) fd := Z.s.def_ 46 (by rfl)
theorem Zc.d_judged_machine (Z : Zc K mg) : ∃ fd, FunD K D_judged_machine.name D_judged_machine.qual (defArgs s_judged_machine) (defBody s_judged_machine) (defScope s_judged_machine) (D_judged_machine.dvs K) (D_judged_machine.kws K) (He.fAd K D_judged_machine.at_) fd := Z.s.def_ 47 (by rfl)
theorem Zc.d_L_harbor (Z : Zc K mg) : ∃ fd, FunD K D_L_harbor.name D_L_harbor.qual (defArgs s_L_harbor) (defBody s_L_harbor) (defScope s_L_harbor) (D_L_harbor.dvs K) (D_L_harbor.kws K) (He.fAd K D_L_harbor.at_) fd := Z.s.def_ 48 (by rfl)
theorem Zc.d_L_tide (Z : Zc K mg) : ∃ fd, FunD K D_L_tide.name D_L_tide.qual (defArgs s_L_tide) (defBody s_L_tide) (defScope s_L_tide) (D_L_tide.dvs K) (D_L_tide.kws K) (He.fAd K D_L_tide.at_) fd := Z.s.def_ 49 (by rfl)
theorem Zc.d_L_one (Z : Zc K mg) : ∃ fd, FunD K D_L_one.name D_L_one.qual (defArgs s_L_one) (defBody s_L_one) (defScope s_L_one) (D_L_one.dvs K) (D_L_one.kws K) (He.fAd K D_L_one.at_) fd := Z.s.def_ 50 (by rfl)
theorem Zc.d_L_book (Z : Zc K mg) : ∃ fd, FunD K D_L_book.name D_L_book.qual (defArgs s_L_book) (defBody s_L_book) (defScope s_L_book) (D_L_book.dvs K) (D_L_book.kws K) (He.fAd K D_L_book.at_) fd := Z.s.def_ 51 (by rfl)
theorem Zc.d_L_price (Z : Zc K mg) : ∃ fd, FunD K D_L_price.name D_L_price.qual (defArgs s_L_price) (defBody s_L_price) (defScope s_L_price) (D_L_price.dvs K) (D_L_price.kws K) (He.fAd K D_L_price.at_) fd := Z.s.def_ 52 (by rfl)
theorem Zc.d_L_deed (Z : Zc K mg) : ∃ fd, FunD K D_L_deed.name D_L_deed.qual (defArgs s_L_deed) (defBody s_L_deed) (defScope s_L_deed) (D_L_deed.dvs K) (D_L_deed.kws K) (He.fAd K D_L_deed.at_) fd := Z.s.def_ 53 (by rfl)
theorem Zc.d_L_once (Z : Zc K mg) : ∃ fd, FunD K D_L_once.name D_L_once.qual (defArgs s_L_once) (defBody s_L_once) (defScope s_L_once) (D_L_once.dvs K) (D_L_once.kws K) (He.fAd K D_L_once.at_) fd := Z.s.def_ 54 (by rfl)
theorem Zc.d_L_end (Z : Zc K mg) : ∃ fd, FunD K D_L_end.name D_L_end.qual (defArgs s_L_end) (defBody s_L_end) (defScope s_L_end) (D_L_end.dvs K) (D_L_end.kws K) (He.fAd K D_L_end.at_) fd := Z.s.def_ 55 (by rfl)
theorem Zc.d_L_spelled (Z : Zc K mg) : ∃ fd, FunD K D_L_spelled.name D_L_spelled.qual (defArgs s_L_spelled) (defBody s_L_spelled) (defScope s_L_spelled) (D_L_spelled.dvs K) (D_L_spelled.kws K) (He.fAd K D_L_spelled.at_) fd := Z.s.def_ 56 (by rfl)
theorem Zc.d_L_done (Z : Zc K mg) : ∃ fd, FunD K D_L_done.name D_L_done.qual (defArgs s_L_done) (defBody s_L_done) (defScope s_L_done) (D_L_done.dvs K) (D_L_done.kws K) (He.fAd K D_L_done.at_) fd := Z.s.def_ 57 (by rfl)
theorem Zc.d_L_edit (Z : Zc K mg) : ∃ fd, FunD K D_L_edit.name D_L_edit.qual (defArgs s_L_edit) (defBody s_L_edit) (defScope s_L_edit) (D_L_edit.dvs K) (D_L_edit.kws K) (He.fAd K D_L_edit.at_) fd := Z.s.def_ 58 (by rfl)
theorem Zc.d_L_damage (Z : Zc K mg) : ∃ fd, FunD K D_L_damage.name D_L_damage.qual (defArgs s_L_damage) (defBody s_L_damage) (defScope s_L_damage) (D_L_damage.dvs K) (D_L_damage.kws K) (He.fAd K D_L_damage.at_) fd := Z.s.def_ 59 (by rfl)
theorem Zc.d_L_worst (Z : Zc K mg) : ∃ fd, FunD K D_L_worst.name D_L_worst.qual (defArgs s_L_worst) (defBody s_L_worst) (defScope s_L_worst) (D_L_worst.dvs K) (D_L_worst.kws K) (He.fAd K D_L_worst.at_) fd := Z.s.def_ 60 (by rfl)
theorem Zc.d_L_hurt (Z : Zc K mg) : ∃ fd, FunD K D_L_hurt.name D_L_hurt.qual (defArgs s_L_hurt) (defBody s_L_hurt) (defScope s_L_hurt) (D_L_hurt.dvs K) (D_L_hurt.kws K) (He.fAd K D_L_hurt.at_) fd := Z.s.def_ 61 (by rfl)
theorem Zc.d_L_flags (Z : Zc K mg) : ∃ fd, FunD K D_L_flags.name D_L_flags.qual (defArgs s_L_flags) (defBody s_L_flags) (defScope s_L_flags) (D_L_flags.dvs K) (D_L_flags.kws K) (He.fAd K D_L_flags.at_) fd := Z.s.def_ 62 (by rfl)
theorem Zc.d_L_flags_right (Z : Zc K mg) : ∃ fd, FunD K D_L_flags_right.name D_L_flags_right.qual (defArgs s_L_flags_right) (defBody s_L_flags_right) (defScope s_L_flags_right) (D_L_flags_right.dvs K) (D_L_flags_right.kws K) (He.fAd K D_L_flags_right.at_) fd := Z.s.def_ 63 (by rfl)
theorem Zc.d_L_late_right (Z : Zc K mg) : ∃ fd, FunD K D_L_late_right.name D_L_late_right.qual (defArgs s_L_late_right) (defBody s_L_late_right) (defScope s_L_late_right) (D_L_late_right.dvs K) (D_L_late_right.kws K) (He.fAd K D_L_late_right.at_) fd := Z.s.def_ 64 (by rfl)
theorem Zc.d_law (Z : Zc K mg) : ∃ fd, FunD K D_law.name D_law.qual (defArgs s_law) (defBody s_law) (defScope s_law) (D_law.dvs K) (D_law.kws K) (He.fAd K D_law.at_) fd := Z.s.def_ 65 (by rfl)
theorem Zc.d_Book__init (Z : Zc K mg) : ∃ fd, FunD K D_Book__init.name D_Book__init.qual (defArgs s_Book__init) (defBody s_Book__init) (defScope s_Book__init) (D_Book__init.dvs K) (D_Book__init.kws K) (He.fAd K D_Book__init.at_) fd := Z.s.def_ 66 (by rfl)
theorem Zc.d_Machine__init (Z : Zc K mg) : ∃ fd, FunD K D_Machine__init.name D_Machine__init.qual (defArgs s_Machine__init) (defBody s_Machine__init) (defScope s_Machine__init) (D_Machine__init.dvs K) (D_Machine__init.kws K) (He.fAd K D_Machine__init.at_) fd := Z.s.def_ 67 (by rfl)
theorem Zc.d_Machine_done (Z : Zc K mg) : ∃ fd, FunD K D_Machine_done.name D_Machine_done.qual (defArgs s_Machine_done) (defBody s_Machine_done) (defScope s_Machine_done) (D_Machine_done.dvs K) (D_Machine_done.kws K) (He.fAd K D_Machine_done.at_) fd := Z.s.def_ 68 (by rfl)
theorem Zc.d_Machine_done_text (Z : Zc K mg) : ∃ fd, FunD K D_Machine_done_text.name D_Machine_done_text.qual (defArgs s_Machine_done_text) (defBody s_Machine_done_text) (defScope s_Machine_done_text) (D_Machine_done_text.dvs K) (D_Machine_done_text.kws K) (He.fAd K D_Machine_done_text.at_) fd := Z.s.def_ 69 (by rfl)
theorem Zc.d_Paper__eq (Z : Zc K mg) : ∃ fd, FunD K D_Paper__eq.name D_Paper__eq.qual (defArgs s_Paper__eq) (defBody s_Paper__eq) (defScope s_Paper__eq) (D_Paper__eq.dvs K) (D_Paper__eq.kws K) (He.fAd K D_Paper__eq.at_) fd := Z.s.def_ 70 (by rfl)
theorem Zc.d_Costs__init (Z : Zc K mg) : ∃ fd, FunD K D_Costs__init.name D_Costs__init.qual (defArgs s_Costs__init) (defBody s_Costs__init) (defScope s_Costs__init) (D_Costs__init.dvs K) (D_Costs__init.kws K) (He.fAd K D_Costs__init.at_) fd := Z.s.def_ 71 (by rfl)
theorem Zc.d_Costs_of (Z : Zc K mg) : ∃ fd, FunD K D_Costs_of.name D_Costs_of.qual (defArgs s_Costs_of) (defBody s_Costs_of) (defScope s_Costs_of) (D_Costs_of.dvs K) (D_Costs_of.kws K) (He.fAd K D_Costs_of.at_) fd := Z.s.def_ 72 (by rfl)
theorem Zc.d_Costs_over (Z : Zc K mg) : ∃ fd, FunD K D_Costs_over.name D_Costs_over.qual (defArgs s_Costs_over) (defBody s_Costs_over) (defScope s_Costs_over) (D_Costs_over.dvs K) (D_Costs_over.kws K) (He.fAd K D_Costs_over.at_) fd := Z.s.def_ 73 (by rfl)
theorem Zc.d_Costs_triple (Z : Zc K mg) : ∃ fd, FunD K D_Costs_triple.name D_Costs_triple.qual (defArgs s_Costs_triple) (defBody s_Costs_triple) (defScope s_Costs_triple) (D_Costs_triple.dvs K) (D_Costs_triple.kws K) (He.fAd K D_Costs_triple.at_) fd := Z.s.def_ 74 (by rfl)
theorem Zc.d_Walk__init (Z : Zc K mg) : ∃ fd, FunD K D_Walk__init.name D_Walk__init.qual (defArgs s_Walk__init) (defBody s_Walk__init) (defScope s_Walk__init) (D_Walk__init.dvs K) (D_Walk__init.kws K) (He.fAd K D_Walk__init.at_) fd := Z.s.def_ 75 (by rfl)
theorem Zc.d_Walk_tries_at (Z : Zc K mg) : ∃ fd, FunD K D_Walk_tries_at.name D_Walk_tries_at.qual (defArgs s_Walk_tries_at) (defBody s_Walk_tries_at) (defScope s_Walk_tries_at) (D_Walk_tries_at.dvs K) (D_Walk_tries_at.kws K) (He.fAd K D_Walk_tries_at.at_) fd := Z.s.def_ 76 (by rfl)
variable {P : Program} {w : World} {base : Heap}
/-- what a def's body must keep -/
abbrev Bd (P : Program) (w : World) (K : PySem.W.Frag) (mg : Str → Option Value) (base : Heap) (k : Nat) (x : Str) (N : List Str) (st : Stmt) (R : List Dt → Dt → Prop) : Prop :=
  ∀ (cdv : Value) (A : Around) (outer : List Env) (s : Shared) (H : Hp) (E : XK) (ds : List Dt) (d : Dt), Room k (A.deeper (PyProof.Rows.envOfC x (defScope st) s.heap.objs.size (He.fAd K (x, none)) cdv)) → R ds d →
      SDs (cxOf CX0 P w K mg base N x (defScope st) (He.fAd K (x, none)) cdv A outer s H E).nox [] (argsD N ds) (defBody st) { rt := fun d' _ => d' = d, nx := fun _ => d = .non }
abbrev BdM (P : Program) (w : World) (K : PySem.W.Frag) (mg : Str → Option Value) (base : Heap) (k : Nat) (C m x : Str) (N : List Str) (st : Stmt) (R : List Dt → Dt → Prop) : Prop :=
  ∀ (cdv : Value) (A : Around) (outer : List Env) (s : Shared) (H : Hp) (E : XK) (ds : List Dt) (d : Dt), Room k (A.deeper (PyProof.Rows.envOfC x (defScope st) s.heap.objs.size (He.fAd K (C, some m)) cdv)) → R ds d →
      SDs (cxOf CX0 P w K mg base N x (defScope st) (He.fAd K (C, some m)) cdv A outer s H E).nox [] (argsD N ds) (defBody st) { rt := fun d' _ => d' = d, nx := fun _ => d = .non }
variable {k : Nat} {R : List Dt → Dt → Prop}
theorem Zc.mk_is_integer (Z : Zc K mg) (hb : Bd P w K mg base k "is_integer" N_is_integer s_is_integer R) : FnP P w K mg base (k + 1) "is_integer" R 1 [] := by
  obtain ⟨fd, F⟩ := Z.d_is_integer
  have b : Binds K fd P_is_integer [] := F.bindsN fun _ _ _ _ _ _ us hl => match us, hl with | [_], _ => rfl
  exact fnP_of F Z.g_is_integer S_is_integer b .nil (fun _ => .nil) rfl hb
theorem Zc.mk_is_within (Z : Zc K mg) (hb : Bd P w K mg base k "is_within" N_is_within s_is_within R) : FnP P w K mg base (k + 1) "is_within" R 3 [] := by
  obtain ⟨fd, F⟩ := Z.d_is_within
  have b : Binds K fd P_is_within [] := F.bindsN fun _ _ _ _ _ _ us hl => match us, hl with | [_, _, _], _ => rfl
  exact fnP_of F Z.g_is_within S_is_within b .nil (fun _ => .nil) rfl hb
theorem Zc.mk_are_within (Z : Zc K mg) (hb : Bd P w K mg base k "are_within" N_are_within s_are_within R) : FnP P w K mg base (k + 1) "are_within" R 3 [] := by
  obtain ⟨fd, F⟩ := Z.d_are_within
  have b : Binds K fd P_are_within [] := F.bindsN fun _ _ _ _ _ _ us hl => match us, hl with | [_, _, _], _ => rfl
  exact fnP_of F Z.g_are_within S_are_within b .nil (fun _ => .nil) rfl hb
theorem Zc.mk_is_word (Z : Zc K mg) (hb : Bd P w K mg base k "is_word" N_is_word s_is_word R) : FnP P w K mg base (k + 1) "is_word" R 1 [] := by
  obtain ⟨fd, F⟩ := Z.d_is_word
  have b : Binds K fd P_is_word [] := F.bindsN fun _ _ _ _ _ _ us hl => match us, hl with | [_], _ => rfl
  exact fnP_of F Z.g_is_word S_is_word b .nil (fun _ => .nil) rfl hb
theorem Zc.mk_is_sign (Z : Zc K mg) (hb : Bd P w K mg base k "is_sign" N_is_sign s_is_sign R) : FnP P w K mg base (k + 1) "is_sign" R 1 [] := by
  obtain ⟨fd, F⟩ := Z.d_is_sign
  have b : Binds K fd P_is_sign [] := F.bindsN fun _ _ _ _ _ _ us hl => match us, hl with | [_], _ => rfl
  exact fnP_of F Z.g_is_sign S_is_sign b .nil (fun _ => .nil) rfl hb
theorem Zc.mk_is_text (Z : Zc K mg) (hb : Bd P w K mg base k "is_text" N_is_text s_is_text R) : FnP P w K mg base (k + 1) "is_text" R 1 [] := by
  obtain ⟨fd, F⟩ := Z.d_is_text
  have b : Binds K fd P_is_text [] := F.bindsN fun _ _ _ _ _ _ us hl => match us, hl with | [_], _ => rfl
  exact fnP_of F Z.g_is_text S_is_text b .nil (fun _ => .nil) rfl hb
theorem Zc.mk_need_number (Z : Zc K mg) (hb : Bd P w K mg base k "need_number" N_need_number s_need_number R) : FnP P w K mg base (k + 1) "need_number" R 4 [] := by
  obtain ⟨fd, F⟩ := Z.d_need_number
  have b : Binds K fd P_need_number [] := F.bindsN fun _ _ _ _ _ _ us hl => match us, hl with | [_, _, _, _], _ => rfl
  exact fnP_of F Z.g_need_number S_need_number b .nil (fun _ => .nil) rfl hb
theorem Zc.mk_need_text (Z : Zc K mg) (hb : Bd P w K mg base k "need_text" N_need_text s_need_text R) : FnP P w K mg base (k + 1) "need_text" R 2 [.str "text"] := by
  obtain ⟨fd, F⟩ := Z.d_need_text
  obtain ⟨dv, hv, b⟩ := F.binds1 (ps := P_need_text) 1 0 (List.cons_ne_nil _ _) rfl fun T kV doc pm an cdv ct us its h1 h2 => match us, its, h1, h2 with | [_], [_], _, _ => ⟨_, rfl, rfl⟩
  exact fnP_of F Z.g_need_text S_need_text b hv (fun _ => .cons (.str _) .nil) rfl hb
theorem Zc.mk_is_edit (Z : Zc K mg) (hb : Bd P w K mg base k "is_edit" N_is_edit s_is_edit R) : FnP P w K mg base (k + 1) "is_edit" R 1 [] := by
  obtain ⟨fd, F⟩ := Z.d_is_edit
  have b : Binds K fd P_is_edit [] := F.bindsN fun _ _ _ _ _ _ us hl => match us, hl with | [_], _ => rfl
  exact fnP_of F Z.g_is_edit S_is_edit b .nil (fun _ => .nil) rfl hb
theorem Zc.mk_can_be_done (Z : Zc K mg) (hb : Bd P w K mg base k "can_be_done" N_can_be_done s_can_be_done R) : FnP P w K mg base (k + 1) "can_be_done" R 2 [] := by
  obtain ⟨fd, F⟩ := Z.d_can_be_done
  have b : Binds K fd P_can_be_done [] := F.bindsN fun _ _ _ _ _ _ us hl => match us, hl with | [_, _], _ => rfl
  exact fnP_of F Z.g_can_be_done S_can_be_done b .nil (fun _ => .nil) rfl hb
theorem Zc.mk_done (Z : Zc K mg) (hb : Bd P w K mg base k "done" N_done s_done R) : FnP P w K mg base (k + 1) "done" R 2 [] := by
  obtain ⟨fd, F⟩ := Z.d_done
  have b : Binds K fd P_done [] := F.bindsN fun _ _ _ _ _ _ us hl => match us, hl with | [_, _], _ => rfl
  exact fnP_of F Z.g_done S_done b .nil (fun _ => .nil) rfl hb
theorem Zc.mk_behind (Z : Zc K mg) (hb : Bd P w K mg base k "behind" N_behind s_behind R) : FnP P w K mg base (k + 1) "behind" R 2 [] := by
  obtain ⟨fd, F⟩ := Z.d_behind
  have b : Binds K fd P_behind [] := F.bindsN fun _ _ _ _ _ _ us hl => match us, hl with | [_, _], _ => rfl
  exact fnP_of F Z.g_behind S_behind b .nil (fun _ => .nil) rfl hb
theorem Zc.mk_fits (Z : Zc K mg) (hb : Bd P w K mg base k "fits" N_fits s_fits R) : FnP P w K mg base (k + 1) "fits" R 2 [] := by
  obtain ⟨fd, F⟩ := Z.d_fits
  have b : Binds K fd P_fits [] := F.bindsN fun _ _ _ _ _ _ us hl => match us, hl with | [_, _], _ => rfl
  exact fnP_of F Z.g_fits S_fits b .nil (fun _ => .nil) rfl hb
theorem Zc.mk_need_edits (Z : Zc K mg) (hb : Bd P w K mg base k "need_edits" N_need_edits s_need_edits R) : FnP P w K mg base (k + 1) "need_edits" R 2 [] := by
  obtain ⟨fd, F⟩ := Z.d_need_edits
  have b : Binds K fd P_need_edits [] := F.bindsN fun _ _ _ _ _ _ us hl => match us, hl with | [_, _], _ => rfl
  exact fnP_of F Z.g_need_edits S_need_edits b .nil (fun _ => .nil) rfl hb
theorem Zc.mk_damaged (Z : Zc K mg) (hb : Bd P w K mg base k "damaged" N_damaged s_damaged R) : FnP P w K mg base (k + 1) "damaged" R 2 [] := by
  obtain ⟨fd, F⟩ := Z.d_damaged
  have b : Binds K fd P_damaged [] := F.bindsN fun _ _ _ _ _ _ us hl => match us, hl with | [_, _], _ => rfl
  exact fnP_of F Z.g_damaged S_damaged b .nil (fun _ => .nil) rfl hb
theorem Zc.mk_are_words (Z : Zc K mg) (hb : Bd P w K mg base k "are_words" N_are_words s_are_words R) : FnP P w K mg base (k + 1) "are_words" R 2 [] := by
  obtain ⟨fd, F⟩ := Z.d_are_words
  have b : Binds K fd P_are_words [] := F.bindsN fun _ _ _ _ _ _ us hl => match us, hl with | [_, _], _ => rfl
  exact fnP_of F Z.g_are_words S_are_words b .nil (fun _ => .nil) rfl hb
theorem Zc.mk_need_book (Z : Zc K mg) (hb : Bd P w K mg base k "need_book" N_need_book s_need_book R) : FnP P w K mg base (k + 1) "need_book" R 2 [.str "book"] := by
  obtain ⟨fd, F⟩ := Z.d_need_book
  obtain ⟨dv, hv, b⟩ := F.binds1 (ps := P_need_book) 1 0 (List.cons_ne_nil _ _) rfl fun T kV doc pm an cdv ct us its h1 h2 => match us, its, h1, h2 with | [_], [_], _, _ => ⟨_, rfl, rfl⟩
  exact fnP_of F Z.g_need_book S_need_book b hv (fun _ => .cons (.str _) .nil) rfl hb
theorem Zc.mk_need_row (Z : Zc K mg) (hb : Bd P w K mg base k "need_row" N_need_row s_need_row R) : FnP P w K mg base (k + 1) "need_row" R 3 [.str "row"] := by
  obtain ⟨fd, F⟩ := Z.d_need_row
  obtain ⟨dv, hv, b⟩ := F.binds1 (ps := P_need_row) 2 0 (List.cons_ne_nil _ _) rfl fun T kV doc pm an cdv ct us its h1 h2 => match us, its, h1, h2 with | [_, _], [_], _, _ => ⟨_, rfl, rfl⟩
  exact fnP_of F Z.g_need_row S_need_row b hv (fun _ => .cons (.str _) .nil) rfl hb
theorem Zc.mk_need_copies (Z : Zc K mg) (hb : Bd P w K mg base k "need_copies" N_need_copies s_need_copies R) : FnP P w K mg base (k + 1) "need_copies" R 2 [] := by
  obtain ⟨fd, F⟩ := Z.d_need_copies
  have b : Binds K fd P_need_copies [] := F.bindsN fun _ _ _ _ _ _ us hl => match us, hl with | [_, _], _ => rfl
  exact fnP_of F Z.g_need_copies S_need_copies b .nil (fun _ => .nil) rfl hb
theorem Zc.mk_text_in (Z : Zc K mg) (hb : Bd P w K mg base k "text_in" N_text_in s_text_in R) : FnP P w K mg base (k + 1) "text_in" R 3 [] := by
  obtain ⟨fd, F⟩ := Z.d_text_in
  have b : Binds K fd P_text_in [] := F.bindsN fun _ _ _ _ _ _ us hl => match us, hl with | [_, _, _], _ => rfl
  exact fnP_of F Z.g_text_in S_text_in b .nil (fun _ => .nil) rfl hb
theorem Zc.mk_row_in (Z : Zc K mg) (hb : Bd P w K mg base k "row_in" N_row_in s_row_in R) : FnP P w K mg base (k + 1) "row_in" R 2 [] := by
  obtain ⟨fd, F⟩ := Z.d_row_in
  have b : Binds K fd P_row_in [] := F.bindsN fun _ _ _ _ _ _ us hl => match us, hl with | [_, _], _ => rfl
  exact fnP_of F Z.g_row_in S_row_in b .nil (fun _ => .nil) rfl hb
theorem Zc.mk_spelled (Z : Zc K mg) (hb : Bd P w K mg base k "spelled" N_spelled s_spelled R) : FnP P w K mg base (k + 1) "spelled" R 3 [] := by
  obtain ⟨fd, F⟩ := Z.d_spelled
  have b : Binds K fd P_spelled [] := F.bindsN fun _ _ _ _ _ _ us hl => match us, hl with | [_, _, _], _ => rfl
  exact fnP_of F Z.g_spelled S_spelled b .nil (fun _ => .nil) rfl hb
theorem Zc.mk_are_deeds (Z : Zc K mg) (hb : Bd P w K mg base k "are_deeds" N_are_deeds s_are_deeds R) : FnP P w K mg base (k + 1) "are_deeds" R 2 [] := by
  obtain ⟨fd, F⟩ := Z.d_are_deeds
  have b : Binds K fd P_are_deeds [] := F.bindsN fun _ _ _ _ _ _ us hl => match us, hl with | [_, _], _ => rfl
  exact fnP_of F Z.g_are_deeds S_are_deeds b .nil (fun _ => .nil) rfl hb
theorem Zc.mk_need_machine (Z : Zc K mg) (hb : Bd P w K mg base k "need_machine" N_need_machine s_need_machine R) : FnP P w K mg base (k + 1) "need_machine" R 1 [] := by
  obtain ⟨fd, F⟩ := Z.d_need_machine
  have b : Binds K fd P_need_machine [] := F.bindsN fun _ _ _ _ _ _ us hl => match us, hl with | [_], _ => rfl
  exact fnP_of F Z.g_need_machine S_need_machine b .nil (fun _ => .nil) rfl hb
theorem Zc.mk_end_of (Z : Zc K mg) (hb : Bd P w K mg base k "end_of" N_end_of s_end_of R) : FnP P w K mg base (k + 1) "end_of" R 3 [] := by
  obtain ⟨fd, F⟩ := Z.d_end_of
  have b : Binds K fd P_end_of [] := F.bindsN fun _ _ _ _ _ _ us hl => match us, hl with | [_, _, _], _ => rfl
  exact fnP_of F Z.g_end_of S_end_of b .nil (fun _ => .nil) rfl hb
theorem Zc.mk_ends_of (Z : Zc K mg) (hb : Bd P w K mg base k "ends_of" N_ends_of s_ends_of R) : FnP P w K mg base (k + 1) "ends_of" R 2 [] := by
  obtain ⟨fd, F⟩ := Z.d_ends_of
  have b : Binds K fd P_ends_of [] := F.bindsN fun _ _ _ _ _ _ us hl => match us, hl with | [_, _], _ => rfl
  exact fnP_of F Z.g_ends_of S_ends_of b .nil (fun _ => .nil) rfl hb
theorem Zc.mk_fixed (Z : Zc K mg) (hb : Bd P w K mg base k "fixed" N_fixed s_fixed R) : FnP P w K mg base (k + 1) "fixed" R 1 [] := by
  obtain ⟨fd, F⟩ := Z.d_fixed
  have b : Binds K fd P_fixed [] := F.bindsN fun _ _ _ _ _ _ us hl => match us, hl with | [_], _ => rfl
  exact fnP_of F Z.g_fixed S_fixed b .nil (fun _ => .nil) rfl hb
theorem Zc.mk_is_cut (Z : Zc K mg) (hb : Bd P w K mg base k "is_cut" N_is_cut s_is_cut R) : FnP P w K mg base (k + 1) "is_cut" R 2 [] := by
  obtain ⟨fd, F⟩ := Z.d_is_cut
  have b : Binds K fd P_is_cut [] := F.bindsN fun _ _ _ _ _ _ us hl => match us, hl with | [_, _], _ => rfl
  exact fnP_of F Z.g_is_cut S_is_cut b .nil (fun _ => .nil) rfl hb
theorem Zc.mk_copies_told (Z : Zc K mg) (hb : Bd P w K mg base k "copies_told" N_copies_told s_copies_told R) : FnP P w K mg base (k + 1) "copies_told" R 2 [] := by
  obtain ⟨fd, F⟩ := Z.d_copies_told
  have b : Binds K fd P_copies_told [] := F.bindsN fun _ _ _ _ _ _ us hl => match us, hl with | [_, _], _ => rfl
  exact fnP_of F Z.g_copies_told S_copies_told b .nil (fun _ => .nil) rfl hb
theorem Zc.mk_best_begins (Z : Zc K mg) (hb : Bd P w K mg base k "best_begins" N_best_begins s_best_begins R) : FnP P w K mg base (k + 1) "best_begins" R 3 [] := by
  obtain ⟨fd, F⟩ := Z.d_best_begins
  have b : Binds K fd P_best_begins [] := F.bindsN fun _ _ _ _ _ _ us hl => match us, hl with | [_, _, _], _ => rfl
  exact fnP_of F Z.g_best_begins S_best_begins b .nil (fun _ => .nil) rfl hb
theorem Zc.mk_raised (Z : Zc K mg) (hb : Bd P w K mg base k "raised" N_raised s_raised R) : FnP P w K mg base (k + 1) "raised" R 2 [] := by
  obtain ⟨fd, F⟩ := Z.d_raised
  have b : Binds K fd P_raised [] := F.bindsN fun _ _ _ _ _ _ us hl => match us, hl with | [_, _], _ => rfl
  exact fnP_of F Z.g_raised S_raised b .nil (fun _ => .nil) rfl hb
theorem Zc.mk_alone_cost (Z : Zc K mg) (hb : Bd P w K mg base k "alone_cost" N_alone_cost s_alone_cost R) : FnP P w K mg base (k + 1) "alone_cost" R 2 [] := by
  obtain ⟨fd, F⟩ := Z.d_alone_cost
  have b : Binds K fd P_alone_cost [] := F.bindsN fun _ _ _ _ _ _ us hl => match us, hl with | [_, _], _ => rfl
  exact fnP_of F Z.g_alone_cost S_alone_cost b .nil (fun _ => .nil) rfl hb
theorem Zc.mk_side_costs (Z : Zc K mg) (hb : Bd P w K mg base k "side_costs" N_side_costs s_side_costs R) : FnP P w K mg base (k + 1) "side_costs" R 2 [] := by
  obtain ⟨fd, F⟩ := Z.d_side_costs
  have b : Binds K fd P_side_costs [] := F.bindsN fun _ _ _ _ _ _ us hl => match us, hl with | [_, _], _ => rfl
  exact fnP_of F Z.g_side_costs S_side_costs b .nil (fun _ => .nil) rfl hb
theorem Zc.mk_border_cost (Z : Zc K mg) (hb : Bd P w K mg base k "border_cost" N_border_cost s_border_cost R) : FnP P w K mg base (k + 1) "border_cost" R 2 [] := by
  obtain ⟨fd, F⟩ := Z.d_border_cost
  have b : Binds K fd P_border_cost [] := F.bindsN fun _ _ _ _ _ _ us hl => match us, hl with | [_, _], _ => rfl
  exact fnP_of F Z.g_border_cost S_border_cost b .nil (fun _ => .nil) rfl hb
theorem Zc.mk_triples_of (Z : Zc K mg) (hb : Bd P w K mg base k "triples_of" N_triples_of s_triples_of R) : FnP P w K mg base (k + 1) "triples_of" R 1 [] := by
  obtain ⟨fd, F⟩ := Z.d_triples_of
  have b : Binds K fd P_triples_of [] := F.bindsN fun _ _ _ _ _ _ us hl => match us, hl with | [_], _ => rfl
  exact fnP_of F Z.g_triples_of S_triples_of b .nil (fun _ => .nil) rfl hb
theorem Zc.mk_cheapest (Z : Zc K mg) (hb : Bd P w K mg base k "cheapest" N_cheapest s_cheapest R) : FnP P w K mg base (k + 1) "cheapest" R 1 [] := by
  obtain ⟨fd, F⟩ := Z.d_cheapest
  have b : Binds K fd P_cheapest [] := F.bindsN fun _ _ _ _ _ _ us hl => match us, hl with | [_], _ => rfl
  exact fnP_of F Z.g_cheapest S_cheapest b .nil (fun _ => .nil) rfl hb
theorem Zc.mk_made_words (Z : Zc K mg) (hb : Bd P w K mg base k "made_words" N_made_words s_made_words R) : FnP P w K mg base (k + 1) "made_words" R 2 [] := by
  obtain ⟨fd, F⟩ := Z.d_made_words
  have b : Binds K fd P_made_words [] := F.bindsN fun _ _ _ _ _ _ us hl => match us, hl with | [_, _], _ => rfl
  exact fnP_of F Z.g_made_words S_made_words b .nil (fun _ => .nil) rfl hb
theorem Zc.mk_price (Z : Zc K mg) (hb : Bd P w K mg base k "price" N_price s_price R) : FnP P w K mg base (k + 1) "price" R 1 [] := by
  obtain ⟨fd, F⟩ := Z.d_price
  have b : Binds K fd P_price [] := F.bindsN fun _ _ _ _ _ _ us hl => match us, hl with | [_], _ => rfl
  exact fnP_of F Z.g_price S_price b .nil (fun _ => .nil) rfl hb
theorem Zc.mk_settling (Z : Zc K mg) (hb : Bd P w K mg base k "settling" N_settling s_settling R) : FnP P w K mg base (k + 1) "settling" R 2 [] := by
  obtain ⟨fd, F⟩ := Z.d_settling
  have b : Binds K fd P_settling [] := F.bindsN fun _ _ _ _ _ _ us hl => match us, hl with | [_, _], _ => rfl
  exact fnP_of F Z.g_settling S_settling b .nil (fun _ => .nil) rfl hb
theorem Zc.mk_settles (Z : Zc K mg) (hb : Bd P w K mg base k "settles" N_settles s_settles R) : FnP P w K mg base (k + 1) "settles" R 2 [] := by
  obtain ⟨fd, F⟩ := Z.d_settles
  have b : Binds K fd P_settles [] := F.bindsN fun _ _ _ _ _ _ us hl => match us, hl with | [_, _], _ => rfl
  exact fnP_of F Z.g_settles S_settles b .nil (fun _ => .nil) rfl hb
theorem Zc.mk_need_asked (Z : Zc K mg) (hb : Bd P w K mg base k "need_asked" N_need_asked s_need_asked R) : FnP P w K mg base (k + 1) "need_asked" R 3 [] := by
  obtain ⟨fd, F⟩ := Z.d_need_asked
  have b : Binds K fd P_need_asked [] := F.bindsN fun _ _ _ _ _ _ us hl => match us, hl with | [_, _, _], _ => rfl
  exact fnP_of F Z.g_need_asked S_need_asked b .nil (fun _ => .nil) rfl hb
theorem Zc.mk_without (Z : Zc K mg) (hb : Bd P w K mg base k "without" N_without s_without R) : FnP P w K mg base (k + 1) "without" R 3 [] := by
  obtain ⟨fd, F⟩ := Z.d_without
  have b : Binds K fd P_without [] := F.bindsN fun _ _ _ _ _ _ us hl => match us, hl with | [_, _, _], _ => rfl
  exact fnP_of F Z.g_without S_without b .nil (fun _ => .nil) rfl hb
theorem Zc.mk_parted (Z : Zc K mg) (hb : Bd P w K mg base k "parted" N_parted s_parted R) : FnP P w K mg base (k + 1) "parted" R 4 [] := by
  obtain ⟨fd, F⟩ := Z.d_parted
  have b : Binds K fd P_parted [] := F.bindsN fun _ _ _ _ _ _ us hl => match us, hl with | [_, _, _, _], _ => rfl
  exact fnP_of F Z.g_parted S_parted b .nil (fun _ => .nil) rfl hb
theorem Zc.mk_copies_for (Z : Zc K mg) (hb : Bd P w K mg base k "copies_for" N_copies_for s_copies_for R) : FnP P w K mg base (k + 1) "copies_for" R 2 [] := by
  obtain ⟨fd, F⟩ := Z.d_copies_for
  have b : Binds K fd P_copies_for [] := F.bindsN fun _ _ _ _ _ _ us hl => match us, hl with | [_, _], _ => rfl
  exact fnP_of F Z.g_copies_for S_copies_for b .nil (fun _ => .nil) rfl hb
theorem Zc.mk_judged_text (Z : Zc K mg) (hb : Bd P w K mg base k "judged_text" N_judged_text s_judged_text R) : FnP P w K mg base (k + 1) "judged_text" R 3 [] := by
  obtain ⟨fd, F⟩ := Z.d_judged_text
  have b : Binds K fd P_judged_text [] := F.bindsN fun _ _ _ _ _ _ us hl => match us, hl with | [_, _, _], _ => rfl
  exact fnP_of F Z.g_judged_text S_judged_text b .nil (fun _ => .nil) rfl hb
theorem Zc.mk_need_lets (Z : Zc K mg) (hb : Bd P w K mg base k "need_lets" N_need_lets s_need_lets R) : FnP P w K mg base (k + 1) "need_lets" R 2 [] := by
  obtain ⟨fd, F⟩ := Z.d_need_lets
  have b : Binds K fd P_need_lets [] := F.bindsN fun _ _ _ _ _ _ us hl => match us, hl with | [_, _], _ => rfl
  exact fnP_of F Z.g_need_lets S_need_lets b .nil (fun _ => .nil) rfl hb
theorem Zc.mk_rows_asked (Z : Zc K mg) (hb : Bd P w K mg base k "rows_asked" N_rows_asked s_rows_asked R) : FnP P w K mg base (k + 1) "rows_asked" R 2 [] := by
  obtain ⟨fd, F⟩ := Z.d_rows_asked
  have b : Binds K fd P_rows_asked [] := F.bindsN fun _ _ _ _ _ _ us hl => match us, hl with | [_, _], _ => rfl
  exact fnP_of F Z.g_rows_asked S_rows_asked b .nil (fun _ => .nil) rfl hb
theorem Zc.mk_judged_machine (Z : Zc K mg) (hb : Bd P w K mg base k "judged_machine" N_judged_machine s_judged_machine R) : FnP P w K mg base (k + 1) "judged_machine" R 2 [] := by
  obtain ⟨fd, F⟩ := Z.d_judged_machine
  have b : Binds K fd P_judged_machine [] := F.bindsN fun _ _ _ _ _ _ us hl => match us, hl with | [_, _], _ => rfl
  exact fnP_of F Z.g_judged_machine S_judged_machine b .nil (fun _ => .nil) rfl hb
theorem Zc.mk_L_harbor (Z : Zc K mg) (hb : Bd P w K mg base k "_law_harbor" N_L_harbor s_L_harbor R) : FnP P w K mg base (k + 1) "_law_harbor" R 1 [] := by
  obtain ⟨fd, F⟩ := Z.d_L_harbor
  have b : Binds K fd P_L_harbor [] := F.bindsN fun _ _ _ _ _ _ us hl => match us, hl with | [_], _ => rfl
  exact fnP_of F Z.g_L_harbor S_L_harbor b .nil (fun _ => .nil) rfl hb
theorem Zc.mk_L_tide (Z : Zc K mg) (hb : Bd P w K mg base k "_law_tide" N_L_tide s_L_tide R) : FnP P w K mg base (k + 1) "_law_tide" R 2 [] := by
  obtain ⟨fd, F⟩ := Z.d_L_tide
  have b : Binds K fd P_L_tide [] := F.bindsN fun _ _ _ _ _ _ us hl => match us, hl with | [_, _], _ => rfl
  exact fnP_of F Z.g_L_tide S_L_tide b .nil (fun _ => .nil) rfl hb
theorem Zc.mk_L_one (Z : Zc K mg) (hb : Bd P w K mg base k "_law_one" N_L_one s_L_one R) : FnP P w K mg base (k + 1) "_law_one" R 2 [] := by
  obtain ⟨fd, F⟩ := Z.d_L_one
  have b : Binds K fd P_L_one [] := F.bindsN fun _ _ _ _ _ _ us hl => match us, hl with | [_, _], _ => rfl
  exact fnP_of F Z.g_L_one S_L_one b .nil (fun _ => .nil) rfl hb
theorem Zc.mk_L_book (Z : Zc K mg) (hb : Bd P w K mg base k "_law_book" N_L_book s_L_book R) : FnP P w K mg base (k + 1) "_law_book" R 2 [] := by
  obtain ⟨fd, F⟩ := Z.d_L_book
  have b : Binds K fd P_L_book [] := F.bindsN fun _ _ _ _ _ _ us hl => match us, hl with | [_, _], _ => rfl
  exact fnP_of F Z.g_L_book S_L_book b .nil (fun _ => .nil) rfl hb
theorem Zc.mk_L_price (Z : Zc K mg) (hb : Bd P w K mg base k "_law_price" N_L_price s_L_price R) : FnP P w K mg base (k + 1) "_law_price" R 1 [] := by
  obtain ⟨fd, F⟩ := Z.d_L_price
  have b : Binds K fd P_L_price [] := F.bindsN fun _ _ _ _ _ _ us hl => match us, hl with | [_], _ => rfl
  exact fnP_of F Z.g_L_price S_L_price b .nil (fun _ => .nil) rfl hb
theorem Zc.mk_L_deed (Z : Zc K mg) (hb : Bd P w K mg base k "_law_deed" N_L_deed s_L_deed R) : FnP P w K mg base (k + 1) "_law_deed" R 2 [] := by
  obtain ⟨fd, F⟩ := Z.d_L_deed
  have b : Binds K fd P_L_deed [] := F.bindsN fun _ _ _ _ _ _ us hl => match us, hl with | [_, _], _ => rfl
  exact fnP_of F Z.g_L_deed S_L_deed b .nil (fun _ => .nil) rfl hb
theorem Zc.mk_L_once (Z : Zc K mg) (hb : Bd P w K mg base k "_law_once" N_L_once s_L_once R) : FnP P w K mg base (k + 1) "_law_once" R 2 [] := by
  obtain ⟨fd, F⟩ := Z.d_L_once
  have b : Binds K fd P_L_once [] := F.bindsN fun _ _ _ _ _ _ us hl => match us, hl with | [_, _], _ => rfl
  exact fnP_of F Z.g_L_once S_L_once b .nil (fun _ => .nil) rfl hb
theorem Zc.mk_L_end (Z : Zc K mg) (hb : Bd P w K mg base k "_law_end" N_L_end s_L_end R) : FnP P w K mg base (k + 1) "_law_end" R 4 [] := by
  obtain ⟨fd, F⟩ := Z.d_L_end
  have b : Binds K fd P_L_end [] := F.bindsN fun _ _ _ _ _ _ us hl => match us, hl with | [_, _, _, _], _ => rfl
  exact fnP_of F Z.g_L_end S_L_end b .nil (fun _ => .nil) rfl hb
theorem Zc.mk_L_spelled (Z : Zc K mg) (hb : Bd P w K mg base k "_law_spelled" N_L_spelled s_L_spelled R) : FnP P w K mg base (k + 1) "_law_spelled" R 3 [] := by
  obtain ⟨fd, F⟩ := Z.d_L_spelled
  have b : Binds K fd P_L_spelled [] := F.bindsN fun _ _ _ _ _ _ us hl => match us, hl with | [_, _, _], _ => rfl
  exact fnP_of F Z.g_L_spelled S_L_spelled b .nil (fun _ => .nil) rfl hb
theorem Zc.mk_L_done (Z : Zc K mg) (hb : Bd P w K mg base k "_law_done" N_L_done s_L_done R) : FnP P w K mg base (k + 1) "_law_done" R 2 [] := by
  obtain ⟨fd, F⟩ := Z.d_L_done
  have b : Binds K fd P_L_done [] := F.bindsN fun _ _ _ _ _ _ us hl => match us, hl with | [_, _], _ => rfl
  exact fnP_of F Z.g_L_done S_L_done b .nil (fun _ => .nil) rfl hb
theorem Zc.mk_L_edit (Z : Zc K mg) (hb : Bd P w K mg base k "_law_edit" N_L_edit s_L_edit R) : FnP P w K mg base (k + 1) "_law_edit" R 3 [] := by
  obtain ⟨fd, F⟩ := Z.d_L_edit
  have b : Binds K fd P_L_edit [] := F.bindsN fun _ _ _ _ _ _ us hl => match us, hl with | [_, _, _], _ => rfl
  exact fnP_of F Z.g_L_edit S_L_edit b .nil (fun _ => .nil) rfl hb
theorem Zc.mk_L_damage (Z : Zc K mg) (hb : Bd P w K mg base k "_law_damage" N_L_damage s_L_damage R) : FnP P w K mg base (k + 1) "_law_damage" R 4 [] := by
  obtain ⟨fd, F⟩ := Z.d_L_damage
  have b : Binds K fd P_L_damage [] := F.bindsN fun _ _ _ _ _ _ us hl => match us, hl with | [_, _, _, _], _ => rfl
  exact fnP_of F Z.g_L_damage S_L_damage b .nil (fun _ => .nil) rfl hb
theorem Zc.mk_L_worst (Z : Zc K mg) (hb : Bd P w K mg base k "_law_worst" N_L_worst s_L_worst R) : FnP P w K mg base (k + 1) "_law_worst" R 3 [] := by
  obtain ⟨fd, F⟩ := Z.d_L_worst
  have b : Binds K fd P_L_worst [] := F.bindsN fun _ _ _ _ _ _ us hl => match us, hl with | [_, _, _], _ => rfl
  exact fnP_of F Z.g_L_worst S_L_worst b .nil (fun _ => .nil) rfl hb
theorem Zc.mk_L_hurt (Z : Zc K mg) (hb : Bd P w K mg base k "_law_hurt" N_L_hurt s_L_hurt R) : FnP P w K mg base (k + 1) "_law_hurt" R 3 [] := by
  obtain ⟨fd, F⟩ := Z.d_L_hurt
  have b : Binds K fd P_L_hurt [] := F.bindsN fun _ _ _ _ _ _ us hl => match us, hl with | [_, _, _], _ => rfl
  exact fnP_of F Z.g_L_hurt S_L_hurt b .nil (fun _ => .nil) rfl hb
theorem Zc.mk_L_flags (Z : Zc K mg) (hb : Bd P w K mg base k "_law_flags" N_L_flags s_L_flags R) : FnP P w K mg base (k + 1) "_law_flags" R 1 [] := by
  obtain ⟨fd, F⟩ := Z.d_L_flags
  have b : Binds K fd P_L_flags [] := F.bindsN fun _ _ _ _ _ _ us hl => match us, hl with | [_], _ => rfl
  exact fnP_of F Z.g_L_flags S_L_flags b .nil (fun _ => .nil) rfl hb
theorem Zc.mk_L_flags_right (Z : Zc K mg) (hb : Bd P w K mg base k "_law_flags_right" N_L_flags_right s_L_flags_right R) : FnP P w K mg base (k + 1) "_law_flags_right" R 1 [] := by
  obtain ⟨fd, F⟩ := Z.d_L_flags_right
  have b : Binds K fd P_L_flags_right [] := F.bindsN fun _ _ _ _ _ _ us hl => match us, hl with | [_], _ => rfl
  exact fnP_of F Z.g_L_flags_right S_L_flags_right b .nil (fun _ => .nil) rfl hb
theorem Zc.mk_L_late_right (Z : Zc K mg) (hb : Bd P w K mg base k "_law_late_right" N_L_late_right s_L_late_right R) : FnP P w K mg base (k + 1) "_law_late_right" R 1 [] := by
  obtain ⟨fd, F⟩ := Z.d_L_late_right
  have b : Binds K fd P_L_late_right [] := F.bindsN fun _ _ _ _ _ _ us hl => match us, hl with | [_], _ => rfl
  exact fnP_of F Z.g_L_late_right S_L_late_right b .nil (fun _ => .nil) rfl hb
theorem Zc.mk_law (Z : Zc K mg) (hb : Bd P w K mg base k "law" N_law s_law R) : FnP P w K mg base (k + 1) "law" R 1 [] := by
  obtain ⟨fd, F⟩ := Z.d_law
  have b : Binds K fd P_law [] := F.bindsN fun _ _ _ _ _ _ us hl => match us, hl with | [_], _ => rfl
  exact fnP_of F Z.g_law S_law b .nil (fun _ => .nil) rfl hb
theorem Zc.mk_Machine_done (Z : Zc K mg) (hb : BdM P w K mg base k "Machine" "done" "Machine.done" N_Machine_done s_Machine_done R) : MetP P w K mg base (k + 1) (He.ga K "Machine") "done" R 3 := by
  obtain ⟨fd, F⟩ := Z.d_Machine_done
  have b : Binds K fd P_Machine_done [] := F.bindsN fun _ _ _ _ _ _ us hl => match us, hl with | [_, _, _], _ => rfl
  exact ⟨_, fd, P_Machine_done, fnOk_of F S_Machine_done rfl hb, Z.cls_Machine, Z.me_Machine_done, b⟩
theorem Zc.mk_Machine_done_text (Z : Zc K mg) (hb : BdM P w K mg base k "Machine" "done_text" "Machine.done_text" N_Machine_done_text s_Machine_done_text R) : MetP P w K mg base (k + 1) (He.ga K "Machine") "done_text" R 3 := by
  obtain ⟨fd, F⟩ := Z.d_Machine_done_text
  have b : Binds K fd P_Machine_done_text [] := F.bindsN fun _ _ _ _ _ _ us hl => match us, hl with | [_, _, _], _ => rfl
  exact ⟨_, fd, P_Machine_done_text, fnOk_of F S_Machine_done_text rfl hb, Z.cls_Machine, Z.me_Machine_done_text, b⟩
theorem Zc.mk_Costs_of (Z : Zc K mg) (hb : BdM P w K mg base k "Costs" "of" "Costs.of" N_Costs_of s_Costs_of R) : MetP P w K mg base (k + 1) (He.ga K "Costs") "of" R 3 := by
  obtain ⟨fd, F⟩ := Z.d_Costs_of
  have b : Binds K fd P_Costs_of [] := F.bindsN fun _ _ _ _ _ _ us hl => match us, hl with | [_, _, _], _ => rfl
  exact ⟨_, fd, P_Costs_of, fnOk_of F S_Costs_of rfl hb, Z.cls_Costs, Z.me_Costs_of, b⟩
theorem Zc.mk_Costs_over (Z : Zc K mg) (hb : BdM P w K mg base k "Costs" "over" "Costs.over" N_Costs_over s_Costs_over R) : MetP P w K mg base (k + 1) (He.ga K "Costs") "over" R 4 := by
  obtain ⟨fd, F⟩ := Z.d_Costs_over
  have b : Binds K fd P_Costs_over [] := F.bindsN fun _ _ _ _ _ _ us hl => match us, hl with | [_, _, _, _], _ => rfl
  exact ⟨_, fd, P_Costs_over, fnOk_of F S_Costs_over rfl hb, Z.cls_Costs, Z.me_Costs_over, b⟩
theorem Zc.mk_Costs_triple (Z : Zc K mg) (hb : BdM P w K mg base k "Costs" "triple" "Costs.triple" N_Costs_triple s_Costs_triple R) : MetP P w K mg base (k + 1) (He.ga K "Costs") "triple" R 4 := by
  obtain ⟨fd, F⟩ := Z.d_Costs_triple
  have b : Binds K fd P_Costs_triple [] := F.bindsN fun _ _ _ _ _ _ us hl => match us, hl with | [_, _, _, _], _ => rfl
  exact ⟨_, fd, P_Costs_triple, fnOk_of F S_Costs_triple rfl hb, Z.cls_Costs, Z.me_Costs_triple, b⟩
theorem Zc.mk_Walk_tries_at (Z : Zc K mg) (hb : BdM P w K mg base k "Walk" "tries_at" "Walk.tries_at" N_Walk_tries_at s_Walk_tries_at R) : MetP P w K mg base (k + 1) (He.ga K "Walk") "tries_at" R 2 := by
  obtain ⟨fd, F⟩ := Z.d_Walk_tries_at
  have b : Binds K fd P_Walk_tries_at [] := F.bindsN fun _ _ _ _ _ _ us hl => match us, hl with | [_, _], _ => rfl
  exact ⟨_, fd, P_Walk_tries_at, fnOk_of F S_Walk_tries_at rfl hb, Z.cls_Walk, Z.me_Walk_tries_at, b⟩
end
end AZ
end
/-! AL7 -/
section
set_option Elab.async false
set_option linter.all false
set_option maxRecDepth 100000
set_option maxHeartbeats 4000000
namespace AL
open PySem L2
/-- what a block reads with one name of its own set -/
abbrev one (δ : De) (j : Nat) (d : Dt) : De := δ.set j (some (.sh d))
theorem map_range (ds : List Dt) (F : Dt → Dt) : (List.range ds.length).map (fun i => F (ds.getD i .non)) = ds.map F := by
  apply List.ext_getElem?
  intro i
  rw [List.getElem?_map, List.getElem?_map]
  by_cases h : i < ds.length
  · rw [List.getElem?_range h, List.getElem?_eq_getElem h]
    simp [List.getD_eq_getElem?_getD, List.getElem?_eq_getElem h]
  · rw [List.getElem?_eq_none (Nat.le_of_not_lt h), List.getElem?_eq_none (by simpa using Nat.le_of_not_lt h)]
    rfl
theorem outD_filter (F : Dt → Dt) (b : Dt → Bool) : ∀ (ds es : List Dt), outD es.length (fun i => b ((es ++ ds).getD i .non)) (fun i => F ((es ++ ds).getD i .non)) = (es.filter b).map F → outD (es ++ ds).length (fun i => b ((es ++ ds).getD i .non)) (fun i => F ((es ++ ds).getD i .non)) = ((es ++ ds).filter b).map F
  | [], es, h => by simpa using h
  | d :: ds, es, h => by
    have e : es ++ d :: ds = (es ++ [d]) ++ ds := by simp
    have g : (es ++ d :: ds).getD es.length .non = d := by simp [List.getD_eq_getElem?_getD]
    rw [e]
    refine outD_filter F b ds (es ++ [d]) ?_
    rw [← e]
    rw [List.length_append]
    show outD (es.length + 1) _ _ = _
    cases hb : b d with
    | true =>
      rw [outD_yes (by show b _ = true; rw [g]; exact hb), h, g]
      simp [hb]
    | false =>
      rw [outD_no (by show b _ = false; rw [g]; exact hb), h]
      simp [hb]
theorem out_all (ds : List Dt) (F : Dt → Dt) (b : Dt → Bool) : outD ds.length (fun i => b (ds.getD i .non)) (fun i => F (ds.getD i .non)) = (ds.filter b).map F := by
  have h := outD_filter F b ds [] rfl
  simpa using h
theorem getD_of {ds : List Dt} {i : Nat} {d : Dt} (h : ds[i]? = some d) : ds.getD i .non = d := by simp [List.getD_eq_getElem?_getD, h]
theorem getD_mem {ds : List Dt} {i : Nat} (h : i < ds.length) : ds.getD i .non ∈ ds := by
  rw [List.getD_eq_getElem?_getD, List.getElem?_eq_getElem h]
  exact List.getElem_mem h
section
variable {X : Cx} {δ : De} {iter elt : Expr} {ds : List Dt} {scope : Scope} {x : Str} {j : Nat} {p pos : Pos}
/-- the block of a comprehension -/
abbrev _root_.L2.Cx.bk (X : Cx) (scope : Scope) (s : Shared) (H : Hp) (C : Addr) (cl : List (Str × Addr)) (fp : List Addr) : Cx := X.blk s H scope (compEnvC scope cl C X.env) fp
/-- [elt for x in iter] -/
theorem ed_lcM (j : Nat) (F : Dt → Dt) (hi : ID X δ (.Name x p) iter ds) (ok : BlkOk X.N X.env.scope scope [(x, j)]) (hN : X.N.Nodup)
    (he : ∀ (s : Shared) (H : Hp) (C : Addr) (cl : List (Str × Addr)) (fp : List Addr) (d : Dt), d ∈ ds → ED (X.bk scope s H C cl fp) (δ.set j (some (.sh d))) elt (F d))
    (hz : ds.length ≤ 100000) (hδ : δ[j]? = some none := by rfl) (hi' : X.N[j]? = some x := by rfl)
    (hx : ∀ (s : Shared) (H : Hp) (C : Addr) (cl : List (Str × Addr)) (fp : List Addr), L2.Loc (X.bk scope s H C cl fp).env.scope x := by first | exact fun _ _ _ _ _ => Or.inl rfl | exact fun _ _ _ _ _ => Or.inr rfl)
    (hf : ∀ (s : Shared) (H : Hp) (C : Addr) (cl : List (Str × Addr)) (fp : List Addr), (X.bk scope s H C cl fp).fn x = true ∨ (X.bk scope s H C cl fp).env.scope.names.lookup x = some .local := by first | exact fun _ _ _ _ _ => .inl rfl | exact fun _ _ _ _ _ => .inr rfl)
    (hc : X.calm = true := by rfl) (hs : ∀ y, foldedSetIterable iter X.env y = pure y := by intro _; rfl) : ED X δ (.ListComp elt [⟨.Name x p, iter, [], 0⟩] scope pos) (.lst (ds.map F)) :=
  ed_is (ed_lc (own := [(x, j)]) (δi := fun i => δ.set j (some (.sh (ds.getD i .non)))) (f := fun i => F (ds.getD i .non)) hi ok hN hz (fun i h => by
      have e : i = j := by simpa using h
      exact e ▸ hδ)
    (fun s H C cl fp i d h => by
      show GD _ _ _ _ _ (δ.set j (some (.sh (ds.getD i .non))))
      rw [getD_of h]
      exact gd_name j hN (List.mem_cons_self ..) hi' (hx s H C cl fp) (hf s H C cl fp))
    (fun s H C cl fp i hi => he s H C cl fp _ (getD_mem hi)) hc hs) (by rw [map_range])
/-- [elt for x in iter if c] -/
theorem ed_lcMIf {c : Expr} (j : Nat) (b : Dt → Bool) (F : Dt → Dt) (hi : ID X δ (.Name x p) iter ds) (ok : BlkOk X.N X.env.scope scope [(x, j)]) (hN : X.N.Nodup)
    (ht : ∀ (s : Shared) (H : Hp) (C : Addr) (cl : List (Str × Addr)) (fp : List Addr) (d : Dt), d ∈ ds → ET (X.bk scope s H C cl fp) (δ.set j (some (.sh d))) c (b d))
    (he : ∀ (s : Shared) (H : Hp) (C : Addr) (cl : List (Str × Addr)) (fp : List Addr) (d : Dt), d ∈ ds → b d = true → ED (X.bk scope s H C cl fp) (δ.set j (some (.sh d))) elt (F d))
    (hz : ds.length ≤ 100000) (hδ : δ[j]? = some none := by rfl) (hi' : X.N[j]? = some x := by rfl)
    (hx : ∀ (s : Shared) (H : Hp) (C : Addr) (cl : List (Str × Addr)) (fp : List Addr), L2.Loc (X.bk scope s H C cl fp).env.scope x := by first | exact fun _ _ _ _ _ => Or.inl rfl | exact fun _ _ _ _ _ => Or.inr rfl)
    (hf : ∀ (s : Shared) (H : Hp) (C : Addr) (cl : List (Str × Addr)) (fp : List Addr), (X.bk scope s H C cl fp).fn x = true ∨ (X.bk scope s H C cl fp).env.scope.names.lookup x = some .local := by first | exact fun _ _ _ _ _ => .inl rfl | exact fun _ _ _ _ _ => .inr rfl)
    (hc : X.calm = true := by rfl) (hs : ∀ y, foldedSetIterable iter X.env y = pure y := by intro _; rfl) : ED X δ (.ListComp elt [⟨.Name x p, iter, [c], 0⟩] scope pos) (.lst ((ds.filter b).map F)) :=
  ed_is (ed_lcIf (own := [(x, j)]) (δi := fun i => δ.set j (some (.sh (ds.getD i .non)))) (b := fun i => b (ds.getD i .non)) (f := fun i => F (ds.getD i .non)) hi ok hN hz (fun i h => by
      have e : i = j := by simpa using h
      exact e ▸ hδ)
    (fun s H C cl fp i d h => by
      show GD _ _ _ _ _ (δ.set j (some (.sh (ds.getD i .non))))
      rw [getD_of h]
      exact gd_name j hN (List.mem_cons_self ..) hi' (hx s H C cl fp) (hf s H C cl fp))
    (fun s H C cl fp i hi => ht s H C cl fp _ (getD_mem hi)) (fun s H C cl fp i hi hb => he s H C cl fp _ (getD_mem hi) hb) hc hs) (by rw [out_all])
variable {W : List Addr} {rest : List Stmt} {D : EndsD} {p2 p3 : Pos}
/-- y = [elt for x in iter] -/
theorem sds_lcM (i j : Nat) (F : Dt → Dt) {y : Str} (hi : ID X δ (.Name x p) iter ds) (ok : BlkOk X.N X.env.scope scope [(x, j)]) (hN : X.N.Nodup)
    (he : ∀ (s : Shared) (H : Hp) (C : Addr) (cl : List (Str × Addr)) (fp : List Addr) (d : Dt), d ∈ ds → ED (X.bk scope s H C cl fp) (δ.set j (some (.sh d))) elt (F d))
    (hz : ds.length ≤ 100000) (hr : SDs X W (δ.set i (some (.sh (.lst (ds.map F))))) rest D) (hsw : swapsWith (.ListComp elt [⟨.Name x p, iter, [], 0⟩] scope pos) (some (.Name y p3)) p2.line X.env = pure true := by rfl)
    (hδ : δ[j]? = some none := by rfl) (hi' : X.N[j]? = some x := by rfl)
    (hx : ∀ (s : Shared) (H : Hp) (C : Addr) (cl : List (Str × Addr)) (fp : List Addr), L2.Loc (X.bk scope s H C cl fp).env.scope x := by first | exact fun _ _ _ _ _ => Or.inl rfl | exact fun _ _ _ _ _ => Or.inr rfl)
    (hf : ∀ (s : Shared) (H : Hp) (C : Addr) (cl : List (Str × Addr)) (fp : List Addr), (X.bk scope s H C cl fp).fn x = true ∨ (X.bk scope s H C cl fp).env.scope.names.lookup x = some .local := by first | exact fun _ _ _ _ _ => .inl rfl | exact fun _ _ _ _ _ => .inr rfl)
    (hy : X.N[i]? = some y := by rfl) (hyl : X.env.scope.names.lookup y = some .local := by rfl)
    (hc : X.calm = true := by rfl) (hs : ∀ y, foldedSetIterable iter X.env y = pure y := by intro _; rfl) : SDs X W δ (.Assign [.Name y p3] (.ListComp elt [⟨.Name x p, iter, [], 0⟩] scope pos) p2 :: rest) D :=
  sds_setLc i (own := [(x, j)]) (δi := fun i => δ.set j (some (.sh (ds.getD i .non)))) (f := fun i => F (ds.getD i .non)) hi ok hN hz (fun i h => by
      have e : i = j := by simpa using h
      exact e ▸ hδ)
    (fun s H C cl fp i d h => by
      show GD _ _ _ _ _ (δ.set j (some (.sh (ds.getD i .non))))
      rw [getD_of h]
      exact gd_name j hN (List.mem_cons_self ..) hi' (hx s H C cl fp) (hf s H C cl fp))
    (fun s H C cl fp i hi => he s H C cl fp _ (getD_mem hi)) (by rw [map_range]; exact hr) hsw hy hyl hc hs
/-- y = [elt for x in iter if c] -/
theorem sds_lcMIf {c : Expr} (i j : Nat) (b : Dt → Bool) (F : Dt → Dt) {y : Str} (hi : ID X δ (.Name x p) iter ds) (ok : BlkOk X.N X.env.scope scope [(x, j)]) (hN : X.N.Nodup)
    (ht : ∀ (s : Shared) (H : Hp) (C : Addr) (cl : List (Str × Addr)) (fp : List Addr) (d : Dt), d ∈ ds → ET (X.bk scope s H C cl fp) (δ.set j (some (.sh d))) c (b d))
    (he : ∀ (s : Shared) (H : Hp) (C : Addr) (cl : List (Str × Addr)) (fp : List Addr) (d : Dt), d ∈ ds → b d = true → ED (X.bk scope s H C cl fp) (δ.set j (some (.sh d))) elt (F d))
    (hz : ds.length ≤ 100000) (hr : SDs X W (δ.set i (some (.sh (.lst ((ds.filter b).map F))))) rest D) (hsw : swapsWith (.ListComp elt [⟨.Name x p, iter, [c], 0⟩] scope pos) (some (.Name y p3)) p2.line X.env = pure true := by rfl)
    (hδ : δ[j]? = some none := by rfl) (hi' : X.N[j]? = some x := by rfl)
    (hx : ∀ (s : Shared) (H : Hp) (C : Addr) (cl : List (Str × Addr)) (fp : List Addr), L2.Loc (X.bk scope s H C cl fp).env.scope x := by first | exact fun _ _ _ _ _ => Or.inl rfl | exact fun _ _ _ _ _ => Or.inr rfl)
    (hf : ∀ (s : Shared) (H : Hp) (C : Addr) (cl : List (Str × Addr)) (fp : List Addr), (X.bk scope s H C cl fp).fn x = true ∨ (X.bk scope s H C cl fp).env.scope.names.lookup x = some .local := by first | exact fun _ _ _ _ _ => .inl rfl | exact fun _ _ _ _ _ => .inr rfl)
    (hy : X.N[i]? = some y := by rfl) (hyl : X.env.scope.names.lookup y = some .local := by rfl)
    (hc : X.calm = true := by rfl) (hs : ∀ y, foldedSetIterable iter X.env y = pure y := by intro _; rfl) : SDs X W δ (.Assign [.Name y p3] (.ListComp elt [⟨.Name x p, iter, [c], 0⟩] scope pos) p2 :: rest) D :=
  sds_setLcIf i (own := [(x, j)]) (δi := fun i => δ.set j (some (.sh (ds.getD i .non)))) (bb := fun i => b (ds.getD i .non)) (f := fun i => F (ds.getD i .non)) hi ok hN hz (fun i h => by
      have e : i = j := by simpa using h
      exact e ▸ hδ)
    (fun s H C cl fp i d h => by
      show GD _ _ _ _ _ (δ.set j (some (.sh (ds.getD i .non))))
      rw [getD_of h]
      exact gd_name j hN (List.mem_cons_self ..) hi' (hx s H C cl fp) (hf s H C cl fp))
    (fun s H C cl fp i hi => ht s H C cl fp _ (getD_mem hi)) (fun s H C cl fp i hi hb => he s H C cl fp _ (getD_mem hi) hb) (by rw [out_all]; exact hr) hsw hy hyl hc hs
end
end AL
end
/-! AL8 -/
section
set_option Elab.async false
set_option linter.all false
set_option maxRecDepth 100000
set_option maxHeartbeats 4000000
namespace AL
open PySem L2
theorem PI.ex {X : Cx} {tg e : Expr} {ι : Sort _} {t : ι → TI} (h : ∀ i, PI X tg e (t i)) : PI X tg e (fun σ H R => ∃ i, t i σ H R) := ⟨fun pins s σ H R I ⟨i, q⟩ => (h i).run pins s σ H R I q⟩
theorem set_self {α : Type} {l : List α} {j : Nat} {x : α} (h : l[j]? = some x) : l.set j x = l := by
  apply List.ext_getElem?
  intro i
  rw [List.getElem?_set]
  split
  · rename_i e
    subst e
    rw [h]
    simp [(List.getElem?_eq_some_iff.mp h).1]
  · rfl
/-- what a block's names hold is forgotten -/
theorem Sl.back {K : PySem.W.Frag} {O : Og} {G H : Hp} {σ σ2 : St} {δ : De} {vs : List Nat} (x : Sl K O G H σ δ) (hw : L2.wipe σ2 vs = L2.wipe σ vs) (hδ : ∀ i ∈ vs, δ[i]? = some none) : Sl K O G H σ2 δ := by
  have hl : σ2.length = σ.length := by
    have q := congrArg List.length hw
    rw [L2.wipe_length, L2.wipe_length] at q
    exact q
  refine x.re hl fun i v s hs hv => ?_
  have q : (L2.wipe σ2 vs)[i]? = (L2.wipe σ vs)[i]? := by rw [hw]
  have ni : i ∉ vs := fun h => by
    rw [hδ i h] at hs
    cases hs
  rw [wipe_get, wipe_get, if_neg (fun z => ni z.1), if_neg (fun z => ni z.1)] at q
  rw [q]
  exact hv
/-- .. but for one that holds a datum -/
theorem Sl.back1 {K : PySem.W.Frag} {O : Og} {G H G3 H3 : Hp} {σ σ2 : St} {δ : De} {vs : List Nat} {j : Nat} {d : Dt} (x : Sl K O G H σ δ) (hw : L2.wipe σ2 vs = L2.wipe σ vs) (hδ : ∀ i ∈ vs, δ[i]? = some none) (y : Sl K O G3 H3 σ2 (δ.set j (some (.sh d)))) (hj : δ[j]? = some none) (e : Same G3 G) : Sl K O G H σ2 (δ.set j (some (.sh d))) := by
  have hjl : j < δ.length := (List.getElem?_eq_some_iff.mp hj).1
  obtain ⟨v, h1, h2⟩ := y.sh (i := j) (d := d) (by rw [List.getElem?_set_self hjl])
  have q := (x.back hw hδ).set j (h2.mono e)
  rw [set_self h1] at q
  exact q
def flatD (ds : List Dt) (es : Dt → List Dt) (F : Dt → Dt → Dt) : List Dt := ds.flatMap fun d => (es d).map (F d)
theorem flat_take {ds : List Dt} {es : Dt → List Dt} {F : Dt → Dt → Dt} {i : Nat} {d : Dt} (h : ds[i]? = some d) : flatD (ds.take (i + 1)) es F = flatD (ds.take i) es F ++ (es d).map (F d) := by
  rw [List.take_succ, h]
  simp [flatD]
theorem flat_le {es : Dt → List Dt} {F : Dt → Dt → Dt} : ∀ (ds : List Dt) (i : Nat), (flatD (ds.take i) es F).length ≤ (flatD ds es F).length
  | [], i => by simp [flatD]
  | d :: ds, 0 => by simp [flatD]
  | d :: ds, i + 1 => by
    have q := flat_le (es := es) (F := F) ds i
    simp only [flatD, List.take_succ_cons, List.flatMap_cons, List.length_append] at q ⊢
    omega
section
variable {X : Cx} {δ : De} {iter iter1 elt : Expr} {ds : List Dt} {scope : Scope} {x x1 : Str} {p p1 pos : Pos}
/-- [elt for x in iter for x1 in iter1] -/
theorem ed_lc2M (j j1 : Nat) (es : Dt → List Dt) (F : Dt → Dt → Dt) (hi : ID X δ (.Name x p) iter ds) (ok : BlkOk X.N X.env.scope scope [(x, j), (x1, j1)]) (hN : X.N.Nodup)
    (hi1 : ∀ (s : Shared) (H : Hp) (C : Addr) (cl : List (Str × Addr)) (fp : List Addr) (d : Dt), d ∈ ds → ID (X.bk scope s H C cl fp) (δ.set j (some (.sh d))) (.Name x1 p1) iter1 (es d))
    (he : ∀ (s : Shared) (H : Hp) (C : Addr) (cl : List (Str × Addr)) (fp : List Addr) (d e : Dt), d ∈ ds → e ∈ es d → ED (X.bk scope s H C cl fp) ((δ.set j (some (.sh d))).set j1 (some (.sh e))) elt (F d e))
    (hz : (flatD ds es F).length ≤ 100000) (hj : j ≠ j1 := by decide) (hδ : δ[j]? = some none := by rfl) (hδ1 : δ[j1]? = some none := by rfl) (hi' : X.N[j]? = some x := by rfl) (hi1' : X.N[j1]? = some x1 := by rfl)
    (hx : ∀ (s : Shared) (H : Hp) (C : Addr) (cl : List (Str × Addr)) (fp : List Addr), L2.Loc (X.bk scope s H C cl fp).env.scope x := by first | exact fun _ _ _ _ _ => Or.inl rfl | exact fun _ _ _ _ _ => Or.inr rfl)
    (hf : ∀ (s : Shared) (H : Hp) (C : Addr) (cl : List (Str × Addr)) (fp : List Addr), (X.bk scope s H C cl fp).fn x = true ∨ (X.bk scope s H C cl fp).env.scope.names.lookup x = some .local := by first | exact fun _ _ _ _ _ => .inl rfl | exact fun _ _ _ _ _ => .inr rfl)
    (hx1 : ∀ (s : Shared) (H : Hp) (C : Addr) (cl : List (Str × Addr)) (fp : List Addr), L2.Loc (X.bk scope s H C cl fp).env.scope x1 := by first | exact fun _ _ _ _ _ => Or.inl rfl | exact fun _ _ _ _ _ => Or.inr rfl)
    (hf1 : ∀ (s : Shared) (H : Hp) (C : Addr) (cl : List (Str × Addr)) (fp : List Addr), (X.bk scope s H C cl fp).fn x1 = true ∨ (X.bk scope s H C cl fp).env.scope.names.lookup x1 = some .local := by first | exact fun _ _ _ _ _ => .inl rfl | exact fun _ _ _ _ _ => .inr rfl)
    (hc : X.calm = true := by rfl) (hs : ∀ y, foldedSetIterable iter X.env y = pure y := by intro _; rfl) (hs1 : ∀ env y, foldedSetIterable iter1 env y = pure y := by intro _ _; rfl) :
    ED X δ (.ListComp elt [⟨.Name x p, iter, [], 0⟩, ⟨.Name x1 p1, iter1, [], 0⟩] scope pos) (.lst (flatD ds es F)) := by
  have hv : ∀ i ∈ [j, j1], δ[i]? = some none := fun i h => by
    rcases List.mem_cons.mp h with e | h
    · exact e ▸ hδ
    · have e : i = j1 := by simpa using h
      exact e ▸ hδ1
  have hv1 : ∀ d : Dt, ∀ i ∈ [j1], (δ.set j (some (.sh d)))[i]? = some none := fun d i h => by
    have e : i = j1 := by simpa using h
    rw [e, List.getElem?_set_ne hj]
    exact hδ1
  refine PE.imp (pe_lc2 (own := [(x, j), (x1, j1)]) (vs1 := [j1]) hc hN hi ok (by simp)
    (g := fun v σ H R => ∃ p : { p : Nat × Dt // ds[p.1]? = some p.2 }, gD X.K [j, j1] δ p.1.2 (δ.set j (some (.sh p.1.2))) v σ H R)
    (tt := tYes) (wi1 := fun σ H R => ∃ p : { d : Dt // d ∈ ds }, wiD X.K (δ.set j (some (.sh p.1))) (es p.1) σ H R)
    (g1 := fun v σ H R => ∃ p : Dt × Dt, gD X.K [j1] (δ.set j (some (.sh p.1))) p.2 ((δ.set j (some (.sh p.1))).set j1 (some (.sh p.2))) v σ H R)
    (tt1 := tYes) (te := fun σ H Q => ∃ p : { p : Dt × Dt // p.1 ∈ ds ∧ p.2 ∈ es p.1 }, tD X.K ((δ.set j (some (.sh p.1.1))).set j1 (some (.sh p.1.2))) (F p.1.1 p.1.2) σ H Q)
    (fun s H C cl fp => PG.ex fun p => gd_name j hN (by simp) hi' (hx s H C cl fp) (hf s H C cl fp))
    (fun s H C cl fp => pts_nil) (fun s H C cl fp => PI.ex fun p => hi1 s H C cl fp p.1 p.2)
    (fun s H C cl fp => PG.ex fun p => gd_name j1 hN (by simp) hi1' (hx1 s H C cl fp) (hf1 s H C cl fp))
    (fun s H C cl fp => pts_nil) (fun s H C cl fp => PE.ex fun p => he s H C cl fp p.1.1 p.1.2 p.2.1 p.2.2) hs hs1) fun σ H Q q => ?_
  obtain ⟨O, G, e, sl, k⟩ := q
  refine ⟨O, G, e, sl, fun J G1 H1 f1 wk D hD => ?_⟩
  refine ⟨fun i m H' => m = ds.length - i ∧ i ≤ ds.length ∧ ∃ Gi acc, Fr [] G1 H1 Gi H' ∧ Gi D = none ∧ H' D = some (.lst acc) ∧ RpL X.K Gi acc (flatD (ds.take i) es F), ⟨_, rfl, Nat.zero_le _, G1, [], Fr.fresh f1.s hD, f1.s.free hD, upd_same, .nil⟩, ?_⟩
  rintro i m H' ⟨rfl, hi2, Gi, acc, fr, gD', hH, ra⟩
  obtain ⟨w1, w2, w3⟩ := wk Gi H' fr.g fr.s
  by_cases hlt : i < ds.length
  · refine .inr ⟨w1 i hlt, fun H'' => ∃ Gi acc, Fr [] G1 H1 Gi H'' ∧ Gi D = none ∧ H'' D = some (.lst acc) ∧ RpL X.K Gi acc (flatD (ds.take (i + 1)) es F), fun H'' p => ⟨ds.length - (i + 1), by omega, rfl, hlt, p⟩, fun v H2 y => ?_⟩
    obtain ⟨d, G3, hd, f3, rx⟩ := w3 i v H2 hlt y
    have hm : d ∈ ds := List.mem_of_getElem? hd
    have fr3 := fr.trans f3
    have g3 : G3 D = none := f3.n _ (ne_none hH) gD'
    refine ⟨⟨(i, d), hd⟩, O, G3, f3.s, ((sl.mono f1).mono fr3).wipe hv, rx, fun σ2 s2 w' => ⟨w'.trans (wipe_wipe σ _), ?_⟩⟩
    unfold tYes
    dsimp only
    rw [if_pos rfl]
    refine ⟨⟨d, hm⟩, O, G3, f3.s, s2, fun J1 G4 H4 f4 wk1 => ?_⟩
    have g4 : G4 D = none := f4.n _ (ne_none (f3.same _ _ hH)) g3
    have tot : (flatD (ds.take i) es F).length + (es d).length ≤ 100000 := by
      have q := flat_le (es := es) (F := F) ds (i + 1)
      rw [flat_take hd, List.length_append, List.length_map] at q
      omega
    refine ⟨fun l m H'' => m = (es d).length - l ∧ l ≤ (es d).length ∧ ∃ Gi acc, Fr [] G1 H1 Gi H'' ∧ Same G4 Gi ∧ Gi D = none ∧ H'' D = some (.lst acc) ∧ RpL X.K Gi acc (flatD (ds.take i) es F ++ ((es d).take l).map (F d)), ⟨_, rfl, Nat.zero_le _, G4, acc, fr3.trans f4, Same.refl _, g4, f4.same _ _ (f3.same _ _ hH), ?_⟩, ?_⟩
    · simp only [List.take_zero, List.map_nil, List.append_nil]
      exact ra.mono (f3.g.trans f4.g)
    rintro l m H5 ⟨rfl, hl2, G5, acc5, fr5, e5, g5, hH5, ra5⟩
    obtain ⟨v1, v2, v3⟩ := wk1 G5 H5 e5 fr5.s
    by_cases hlt1 : l < (es d).length
    · refine .inr ⟨v1 l hlt1, fun H'' => ∃ Gi acc, Fr [] G1 H1 Gi H'' ∧ Same G4 Gi ∧ Gi D = none ∧ H'' D = some (.lst acc) ∧ RpL X.K Gi acc (flatD (ds.take i) es F ++ ((es d).take (l + 1)).map (F d)), fun H'' p => ⟨(es d).length - (l + 1), by omega, rfl, hlt1, p⟩, fun v6 H6 y6 => ?_⟩
      obtain ⟨e6, G6, he6, f6, r6⟩ := v3 l v6 H6 hlt1 y6
      have hm6 : e6 ∈ es d := List.mem_of_getElem? he6
      refine ⟨(d, e6), O, G6, f6.s, (((sl.mono f1).mono (fr5.trans f6)).back1 (w'.trans (wipe_wipe σ _)) hv s2 hδ (f4.g.trans (e5.trans f6.g))).wipe (hv1 d), r6, fun σ3 s7 w7 => ⟨w7.trans (wipe_wipe σ2 _), ?_⟩⟩
      dsimp only
      rw [if_pos rfl]
      refine ⟨⟨(d, e6), hm, hm6⟩, O, G6, f6.s, s7, fun v8 G8 H8 f8 r8 => ⟨acc5, f8.same _ _ (f6.same _ _ hH5), ?_, G8, acc5 ++ [v8], ((fr5.trans f6).trans f8).write (.inl hD) ?_, (e5.trans f6.g).trans f8.g, ?_, upd_same, ?_⟩⟩
      · rw [ra5.length, List.length_append, List.length_map, List.length_take]
        exact Nat.lt_of_le_of_lt (show _ ≤ 100000 by omega) (by decide)
      · exact f8.n _ (ne_none (f6.same _ _ hH5)) (f6.n _ (ne_none hH5) g5)
      · exact f8.n _ (ne_none (f6.same _ _ hH5)) (f6.n _ (ne_none hH5) g5)
      · rw [List.take_succ, he6]
        simp only [Option.toList_some, List.map_append, List.map_cons, List.map_nil]
        rw [← List.append_assoc]
        exact (ra5.mono (f6.g.trans f8.g)).append (.cons r8 .nil)
    · have e1 : l = (es d).length := by omega
      subst e1
      refine .inl ⟨v2, G5, acc5, fr5, g5, hH5, ?_⟩
      rw [flat_take hd]
      rw [List.take_length] at ra5
      exact ra5
  · have e1 : i = ds.length := by omega
    subst e1
    refine .inl ⟨w2, ?_⟩
    have fz := fr.freeze hD hH gD'
    refine k _ _ _ (f1.trans fz) (.lst upd_same ?_)
    rw [List.take_length] at ra
    refine ra.mono fun c o q => ?_
    rw [upd_ne (ne_of_none q gD')]
    exact q
end
end AL
end
/-! AL9 -/
section
set_option Elab.async false
set_option linter.all false
set_option maxRecDepth 100000
set_option maxHeartbeats 4000000
namespace AL
open PySem PySem.Spec PyProof.Rows L2
theorem tup_mul1 (l : Addr) (items : Array Value) (n : Nat) (dd : Option Addr) (sl : Array (Option Value)) (u : Tok) :
    Meets (Builtin.«tuple.__mul__» ⟨[.ref l, .int 1 u], []⟩) (fun _ R s => s.heap.get? l = some { cls := .type "tuple", dict := dd, data := .seq items n, slots := sl } ∧ R (.ok (.ret (Value.ref l))) s) :=
  .of_wp fun prog w A R s ⟨hl, h⟩ => by
    have f1 := AutoSeq1.idx_int
    wp_walk using wpAny_loadPart' hl
    exact ⟨_, rfl, h⟩
section
variable {X : Cx}
/-- t * 1 is t itself -/
theorem op_rep1 : OpR X (binaryOp .Mult) (fun x y H Q => ∃ (l : Addr) (xs : List V), x = .ref l ∧ y = .int 1 ∧ SqT X.K H l xs ∧ Q (.ref l) H) := by
  intro pins s σ H x y v u Q I rx ry h
  obtain ⟨l, xs, rfl, rfl, hT, q⟩ := h
  cases rx
  obtain ⟨t, rfl⟩ := ry
  obtain ⟨its, r, ⟨⟨cls, dd, data, sl⟩, ho, hc, n, hd⟩, hs⟩ := I.tuple hT
  cases hc
  cases hd
  exact wpAny_binaryOp_repeat_ref (T := "tuple") (U := "int") (by decide) ⟨_, ho, rfl⟩ (fun s' => typeIs_int s' 1 t) noFill_tuple_mul F.fills_int_mul F.slot_int_rmul repeat_tuple F.slot_int_index.lookup (call_meets F.slot_int_rmul (typeIs_int s 1 t) F.entry_int_rmul (F.args_int_rmul_2 _ _) (int_rmul_tuple 1 t l its.toArray n dd sl) ⟨ho, rfl, ⟨_, ho, rfl⟩, call_meets F.slot_tuple_mul ⟨_, ho, rfl⟩ F.entry_tuple_mul (F.args_tuple_mul_2 _ _) (tup_mul1 l its.toArray n dd sl t) ⟨ho, ⟨.ref l, H, I, rfl, q⟩⟩⟩)
theorem opd_repT {ds : List Dt} {k : Nat} (h0 : 1 ≤ k) (h1 : k ≤ 1000) (hne : ds ≠ []) (hz : ds.length ≤ 1000) : OpD X (binaryOp .Mult) (.tup ds) (.int k) (.tup (List.replicate k ds).flatten) := by
  rcases Nat.lt_or_ge 1 k with hk | hk
  · refine AL.OpR.imp op_repT fun x y H Q ⟨G, e, rx, ry, q⟩ => ?_
    cases ry
    cases rx with
    | tup hx rx =>
    refine ⟨_, k, _, rfl, rfl, .of (e _ _ hx), fun z => hne ?_, by omega, by omega, by rw [rx.length]; exact hz, fun p hp => ?_⟩
    · have := rx.length
      rw [z] at this
      exact List.eq_nil_of_length_eq_zero this.symm
    · rw [Int.toNat_natCast]
      obtain ⟨f, r⟩ := new_tup (K := X.K) e hp (rx.rep k)
      exact q _ _ _ f r
  · obtain rfl : k = 1 := by omega
    refine AL.OpR.imp op_rep1 fun x y H Q ⟨G, e, rx, ry, q⟩ => ?_
    cases ry
    cases rx with
    | tup hx rx =>
    refine ⟨_, _, rfl, rfl, .of (e _ _ hx), q _ G H (Fr.refl e) ?_⟩
    simpa using Rp.tup hx rx
end
/-! ### dicts whose keys are ints and texts -/
def keyD : Key → Dt
  | .inl i => .int i
  | .inr x => .str x
abbrev KDs := List (Key × Dt)
def dkD (kds : KDs) : Dt := .dk (kds.map (·.1)) (kds.map (·.2))
def valD (kds : KDs) (k : Key) : Option Dt := (kds.find? fun kv => decide (kv.1 = k)).map (·.2)
def putD (kds : KDs) (k : Key) (d : Dt) : KDs := if (kds.any fun kv => decide (kv.1 = k)) = true then kds.map (fun kv => if kv.1 = k then (kv.1, d) else kv) else kds ++ [(k, d)]
inductive RpK (K : PySem.W.Frag) (G : Hp) : List (Key × V) → KDs → Prop
  | nil : RpK K G [] []
  | cons (k : Key) {v : V} {d : Dt} {r : List (Key × V)} {q : KDs} : Rp K G v d → RpK K G r q → RpK K G ((k, v) :: r) ((k, d) :: q)
section
variable {K : PySem.W.Frag} {G G' : Hp}
theorem RpK.mono (e : Same G G') : ∀ {a : List (Key × V)} {b : KDs}, RpK K G a b → RpK K G' a b
  | _, _, .nil => .nil
  | _, _, .cons k h r => .cons k (h.mono e) (r.mono e)
theorem RpK.length : ∀ {a : List (Key × V)} {b : KDs}, RpK K G a b → a.length = b.length
  | _, _, .nil => rfl
  | _, _, .cons _ _ r => congrArg (· + 1) r.length
theorem RpK.of : ∀ {a : List (Key × V)} {b : KDs}, a.map (·.1) = b.map (·.1) → RpL K G (a.map (·.2)) (b.map (·.2)) → RpK K G a b
  | [], [], _, _ => .nil
  | [], _ :: _, h, _ => by cases h
  | _ :: _, [], h, _ => by cases h
  | (k, v) :: a, (k', d) :: b, h, r => by
    simp only [List.map_cons, List.cons.injEq] at h
    obtain ⟨rfl, h⟩ := h
    cases r with
    | cons r1 r2 => exact .cons k r1 (RpK.of h r2)
theorem RpK.keys : ∀ {a : List (Key × V)} {b : KDs}, RpK K G a b → a.map (·.1) = b.map (·.1)
  | _, _, .nil => rfl
  | _, _, .cons k _ r => congrArg (k :: ·) r.keys
theorem RpK.vals : ∀ {a : List (Key × V)} {b : KDs}, RpK K G a b → RpL K G (a.map (·.2)) (b.map (·.2))
  | _, _, .nil => .nil
  | _, _, .cons _ h r => .cons h r.vals
theorem RpK.append : ∀ {a c : List (Key × V)} {b d : KDs}, RpK K G a b → RpK K G c d → RpK K G (a ++ c) (b ++ d)
  | _, _, _, _, .nil, y => y
  | _, _, _, _, .cons k h r, y => .cons k h (r.append y)
theorem RpK.any (j : Key) : ∀ {a : List (Key × V)} {b : KDs}, RpK K G a b → (a.any fun kv => decide (kv.1 = j)) = (b.any fun kv => decide (kv.1 = j))
  | _, _, .nil => rfl
  | _, _, .cons k h r => by
    simp only [List.any_cons]
    rw [r.any j]
theorem RpK.upd {j : Key} {v : V} {d : Dt} (h : Rp K G v d) : ∀ {a : List (Key × V)} {b : KDs}, RpK K G a b → RpK K G (a.map (fun kv => if kv.1 = j then (kv.1, v) else kv)) (b.map (fun kv => if kv.1 = j then (kv.1, d) else kv))
  | _, _, .nil => .nil
  | _, _, .cons k hh r => by
    simp only [List.map_cons]
    by_cases e : k = j
    · rw [if_pos e, if_pos e]
      exact .cons k h (r.upd h)
    · rw [if_neg e, if_neg e]
      exact .cons k hh (r.upd h)
theorem RpK.put {j : Key} {v : V} {d : Dt} (h : Rp K G v d) {a : List (Key × V)} {b : KDs} (r : RpK K G a b) : RpK K G (putK a j v) (putD b j d) := by
  unfold putK putD
  rw [r.any j]
  split
  · exact r.upd h
  · exact r.append (.cons j h .nil)
theorem RpK.val (j : Key) : ∀ {a : List (Key × V)} {b : KDs}, RpK K G a b → (valV a j = none ∧ valD b j = none) ∨ ∃ v d, valV a j = some v ∧ valD b j = some d ∧ Rp K G v d
  | _, _, .nil => .inl ⟨rfl, rfl⟩
  | _, _, .cons k h r => by
    unfold valV valD
    simp only [List.find?_cons]
    by_cases e : k = j
    · simp only [e, decide_true]
      exact .inr ⟨_, _, rfl, rfl, h⟩
    · simp only [e, decide_false]
      exact r.val j
theorem RpK.to {a : Addr} {kvs : List (Key × V)} {kds : KDs} (h : G a = some (.dK kvs)) (r : RpK K G kvs kds) : Rp K G (.ref a) (dkD kds) := .dk h r.keys r.vals
theorem Rp.dkD {v : V} {kds : KDs} (r : Rp K G v (dkD kds)) : ∃ a kvs, v = .ref a ∧ G a = some (.dK kvs) ∧ RpK K G kvs kds := by
  cases r with
  | dk h k r => exact ⟨_, _, rfl, h, .of k r⟩
theorem putD_len (b : KDs) (j : Key) (d : Dt) : (putD b j d).length ≤ b.length + 1 := by
  unfold putD
  split <;> simp
theorem Rp.key {v : V} {k : Key} (r : Rp K G v (keyD k)) : v = kV k := by
  cases k with
  | inl i => cases r; rfl
  | inr x => cases r; rfl
end
/-- what a dict comprehension makes of n turns -/
def madeD (kf : Nat → Key) (f : Nat → Dt) : Nat → KDs
  | 0 => []
  | n + 1 => putD (madeD kf f n) (kf n) (f n)
theorem madeD_len (kf : Nat → Key) (f : Nat → Dt) : ∀ n, (madeD kf f n).length ≤ n
  | 0 => Nat.le_refl _
  | n + 1 => Nat.le_trans (putD_len _ _ _) (Nat.succ_le_succ (madeD_len kf f n))
section
variable {X : Cx} {δ : De} {o e kx vx tg iter : Expr} {ds : List Dt} {kds : KDs} {k : Key} {d : Dt} {pos : Pos} {scope : Scope} {own : List (Str × Nat)} {δi : Nat → De} {kf : Nat → Key} {f : Nat → Dt}
theorem ed_dget (hu : X.A.units + 64 < cLine) (ho : ED X δ o (dkD kds)) (hk : ED X δ e (keyD k)) (h : valD kds k = some d) (hs : NoSl e := by exact fun _ _ => rfl) : ED X δ (.Subscript o e pos) d :=
  PE.imp (pe_dget (by omega) ho hk hs) fun σ H Q ⟨O, G, e, s, q⟩ => ⟨O, G, e, s, fun v G1 H1 f1 r1 => ⟨O, G1, f1.s, s.mono f1, fun w G2 H2 f2 r2 => by
    obtain ⟨a, kvs, rfl, hG, rk⟩ := r1.dkD
    rw [r2.key]
    rcases rk.val k with ⟨_, z⟩ | ⟨v, d', h1, h2, h3⟩
    · rw [h] at z
      cases z
    · rw [h] at h2
      cases h2
      exact ⟨a, v, rfl, by rw [← h1]; exact DGet.k (f2.s _ _ (f2.g _ _ hG)), q v G2 H2 (f1.trans f2) (h3.mono f2.g)⟩⟩⟩
theorem dget_some {K : PySem.W.Frag} {G : Hp} {kvs : List (Key × V)} (rk : RpK K G kvs kds) : (valV kvs k).isSome = (valD kds k).isSome := by
  rcases rk.val k with ⟨h1, h2⟩ | ⟨v, d', h1, h2, h3⟩ <;> rw [h1, h2] <;> rfl
theorem ed_din (hu : X.A.units + 64 < cLine) (hk : ED X δ e (keyD k)) (ho : ED X δ o (dkD kds)) (hm : behindInMarks .In o = false := by first | exact nomark _ | rfl) : ED X δ (.Compare e [.In] [o] pos) (.bl (valD kds k).isSome) :=
  PE.imp (pe_cmp (pc_din (by omega) hk ho) hm) fun σ H Q ⟨O, G, e, s, q⟩ => ⟨O, G, e, s, fun v G1 H1 f1 r1 => ⟨O, G1, f1.s, s.mono f1, fun w G2 H2 f2 r2 => by
    obtain ⟨a, kvs, rfl, hG, rk⟩ := r2.dkD
    rw [r1.key]
    refine ⟨a, _, rfl, DGet.k (f2.s _ _ hG), ?_⟩
    rw [dget_some rk]
    exact q _ G2 H2 (f1.trans f2) (.bl _)⟩⟩
theorem et_din (hu : X.A.units + 64 < cLine) (hk : ED X δ e (keyD k)) (ho : ED X δ o (dkD kds)) (hm : behindInMarks .In o = false := by first | exact nomark _ | rfl) : ET X δ (.Compare e [.In] [o] pos) (valD kds k).isSome :=
  PT.imp (pt_cmp (pc_din (by omega) hk ho) hm) fun σ H Q ⟨O, G, e, s, q⟩ => ⟨O, G, e, s, fun v G1 H1 f1 r1 => ⟨O, G1, f1.s, s.mono f1, fun w G2 H2 f2 r2 => by
    obtain ⟨a, kvs, rfl, hG, rk⟩ := r2.dkD
    rw [r1.key]
    refine ⟨a, _, rfl, DGet.k (f2.s _ _ hG), ?_⟩
    rw [dget_some rk]
    exact ⟨_, rfl, q G2 H2 (f1.trans f2)⟩⟩⟩
/-- {kx: vx for tg in iter} -/
theorem ed_dc (hi : ID X δ tg iter ds) (ok : BlkOk X.N X.env.scope scope own) (hN : X.N.Nodup) (hz : ds.length ≤ 100000) (hδ : ∀ i ∈ own.map (·.2), δ[i]? = some none)
    (hg : ∀ (s : Shared) (H : Hp) (C : Addr) (cl : List (Str × Addr)) (fp : List Addr) (i : Nat) (d : Dt), ds[i]? = some d → GD (X.blk s H scope (compEnvC scope cl C X.env) fp) (own.map (·.2)) δ tg d (δi i))
    (hk : ∀ (s : Shared) (H : Hp) (C : Addr) (cl : List (Str × Addr)) (fp : List Addr) (i : Nat), i < ds.length → ED (X.blk s H scope (compEnvC scope cl C X.env) fp) (δi i) kx (keyD (kf i)))
    (he : ∀ (s : Shared) (H : Hp) (C : Addr) (cl : List (Str × Addr)) (fp : List Addr) (i : Nat), i < ds.length → ED (X.blk s H scope (compEnvC scope cl C X.env) fp) (δi i) vx (f i))
    (hc : X.calm = true := by rfl) (hs : ∀ x, foldedSetIterable iter X.env x = pure x := by intro _; rfl) : ED X δ (.DictComp kx vx [⟨tg, iter, [], 0⟩] scope pos) (dkD (madeD kf f ds.length)) := by
  refine PE.imp (pe_dc hc hN hi ok (g := gAll X.K (own.map (·.2)) δ ds δi) (tt := tYes) (tk := fun σ H Q => ∃ p : { i : Nat // i < ds.length }, tD X.K (δi p.1) (keyD (kf p.1)) σ H Q) (tv := fun σ H Q => ∃ p : { i : Nat // i < ds.length }, tD X.K (δi p.1) (f p.1) σ H Q)
    (fun s H C cl fp => PG.ex fun p => hg s H C cl fp p.1.1 p.1.2 p.2) (fun s H C cl fp => pts_nil) (fun s H C cl fp => PE.ex fun p => hk s H C cl fp p.1 p.2) (fun s H C cl fp => PE.ex fun p => he s H C cl fp p.1 p.2) hs) fun σ H Q q => ?_
  obtain ⟨O, G, e, sl, k⟩ := q
  refine ⟨O, G, e, sl, fun J G1 H1 f1 wk D hD => ?_⟩
  refine ⟨fun i m H' => m = ds.length - i ∧ i ≤ ds.length ∧ ∃ Gi acc, Fr [] G1 H1 Gi H' ∧ Gi D = none ∧ H' D = some (.dK acc) ∧ RpK X.K Gi acc (madeD kf f i), ⟨_, rfl, Nat.zero_le _, G1, [], Fr.fresh f1.s hD, f1.s.free hD, upd_same, .nil⟩, ?_⟩
  rintro i m H' ⟨rfl, hi2, Gi, acc, fr, gD', hH, ra⟩
  obtain ⟨w1, w2, w3⟩ := wk Gi H' fr.g fr.s
  by_cases hlt : i < ds.length
  · refine .inr ⟨w1 i hlt, fun H'' => ∃ Gi acc, Fr [] G1 H1 Gi H'' ∧ Gi D = none ∧ H'' D = some (.dK acc) ∧ RpK X.K Gi acc (madeD kf f (i + 1)), fun H'' p => ⟨ds.length - (i + 1), by omega, rfl, hlt, p⟩, fun v H2 y => ?_⟩
    obtain ⟨d, G3, hd, f3, rx⟩ := w3 i v H2 hlt y
    have fr3 := fr.trans f3
    have g3 : G3 D = none := f3.n _ (ne_none hH) gD'
    refine ⟨⟨(i, d), hd⟩, O, G3, f3.s, ((sl.mono f1).mono fr3).wipe hδ, rx, fun σ2 s2 w' => ⟨w'.trans (wipe_wipe σ _), ?_⟩⟩
    unfold tYes
    dsimp only
    rw [if_pos rfl]
    refine ⟨⟨i, hlt⟩, O, G3, f3.s, s2, fun x4 G4 H4 f4 r4 => ⟨⟨i, hlt⟩, O, G4, f4.s, s2.mono f4, fun x5 G5 H5 f5 r5 => ⟨acc, kf i, r4.key, ?_, ?_, G5, putK acc (kf i) x5, ((fr3.trans f4).trans f5).write (.inl hD) ?_, ?_, upd_same, ?_⟩⟩⟩
    · exact f5.same _ _ (f4.same _ _ (f3.same _ _ hH))
    · rw [ra.length]
      have := madeD_len kf f i
      exact Nat.lt_of_le_of_lt (show _ ≤ 100000 by omega) (by decide)
    · exact f5.n _ (ne_none (f4.same _ _ (f3.same _ _ hH))) (f4.n _ (ne_none (f3.same _ _ hH)) g3)
    · exact f5.n _ (ne_none (f4.same _ _ (f3.same _ _ hH))) (f4.n _ (ne_none (f3.same _ _ hH)) g3)
    · exact (ra.mono ((f3.g.trans f4.g).trans f5.g)).put r5
  · have e1 : i = ds.length := by omega
    subst e1
    refine .inl ⟨w2, ?_⟩
    have fz := fr.freeze hD hH gD'
    refine k _ _ _ (f1.trans fz) (RpK.to upd_same (ra.mono fun c o q => ?_))
    rw [upd_ne (ne_of_none q gD')]
    exact q
end
end AL
end
/-! AL10 -/
section
set_option Elab.async false
set_option linter.all false
set_option maxRecDepth 100000
set_option maxHeartbeats 4000000
namespace AL
open PySem PySem.Spec PyProof.Rows L2
open AutoSeq1 (wpAny_loadPart')
/-! ### enumerate(tuple) -/
def IteT (K : PySem.W.Frag) (a : Addr) : It :=
  ⟨fun i H => ∃ (xs : List V) (x : V), SqT K H a xs ∧ xs[i]? = some x, fun i H v H' => ∃ T x, v = .ref T ∧ H T = none ∧ H' = upd H T (.tup [.int (i : Nat), x]) ∧ ∀ xs, SqT K H a xs → xs[i]? = some x, fun i H => ∃ xs : List V, SqT K H a xs ∧ xs.length = i⟩
theorem turn_enumT {P : Program} {w : World} {K : PySem.W.Frag} {elts : List Expr} {kk : Nat} {tpos : Pos} (a e it : Addr) :
    Turn P w K (.Tuple elts kk tpos) (IteT K a) [e, it] e (fun i h => (∃ old, IsEnum h e it ((i : Nat) : Int) old) ∧ h.IsTupleIter it a i ∧ e ≠ it ∧ e ≠ a ∧ a ≠ it) where
  mem := by simp
  obj := fun i h ⟨⟨old, he⟩, ⟨o, ho, hc, hd⟩, _⟩ b hb => by
    rcases List.mem_cons.mp hb with z | z
    · subst z; exact ⟨_, he, fun v q => nomatch q⟩
    · obtain rfl : b = it := by simpa using z
      exact ⟨o, ho, fun v q => by rw [hd] at q; cases q⟩
  keep := fun i h h' ⟨⟨old, he⟩, hi, hne⟩ k => ⟨⟨old, k e (by simp) _ he⟩, hi.at fun o q => k it (by simp) o q, hne⟩
  item := by
    intro X hP hw hK hc i pins s σ H E I hf ⟨⟨old, he⟩, hit, hne, hea, hai⟩ ⟨xs, x, hq, hx⟩
    subst hP hw hK
    obtain ⟨its, rv, p, hz⟩ := I.tuple hq
    obtain ⟨u, hu, ru⟩ := rv.get hx
    have hel : e < s.heap.objs.size := Heap.lt_size he
    have hil : it < s.heap.objs.size := by obtain ⟨_, q, _⟩ := hit; exact Heap.lt_size q
    have hh : X.A.in1.handled = none := I.ok.hd hc
    refine wpAny_pyNext_enum_itemD (Draws.tuple hh it a hai its.toArray) he ⟨hit, p⟩ (by simpa using (List.getElem?_eq_some_iff.mp hu).1) hne (by simp [hne, hea]) fun x' h' tk hx' ho hst' hT hsz hk => ?_
    obtain rfl : u = x' := by
      have q : its[i]? = some x' := by simpa using hx'
      rw [hu] at q
      exact Option.some.inj q
    refine ⟨_, rfl, wpAny_letOwnedTupleGo_enum (s := { s with heap := h', toks := tk + 1 }) ho fun h'' he' sb => ?_⟩
    have hT2 : h''.get? s.heap.objs.size = some { cls := .type "tuple", data := .seq #[.int i tk, u] } := (sb.2 _ (Nat.ne_of_gt hel)).trans hT
    have I1 : Inv X pins σ (upd H s.heap.objs.size (.tup [.int (i : Nat), x])) { s with heap := h'', toks := tk + 1 } :=
      I.turnedNew (ch := [e, it]) (fun b ob hb q => (sb.2 b (fun z => hb (by simp [z]))).trans (hk b ob (fun z => hb (by simp [z])) (fun z => hb (by simp [z])) q)) hf (Nat.le_refl _) ⟨show 2 ≤ sizeLine by decide, [.int i tk, u], .cons ⟨_, rfl⟩ (.cons ru .nil), ⟨_, hT2, rfl, _, rfl⟩⟩
    refine ⟨.ref s.heap.objs.size, _, I1, rfl, ⟨_, x, rfl, I.hok.fresh (Nat.le_refl _), rfl, fun ys hy => by rw [I.tuple_inj hy hq]; exact hx⟩, ⟨⟨u, he'⟩, hst'.1.at fun o q => (sb.2 it (Ne.symm hne)).trans q, hne, hea, hai⟩, fun b hb => ?_⟩
    have hb' : b < s.heap.objs.size := by
      rcases List.mem_cons.mp hb with z | z
      · rw [z]; exact hel
      · obtain rfl : b = it := by simpa using z
        exact hil
    rw [upd_ne (Nat.ne_of_lt hb')]
    exact (hf b hb).1
  done := by
    intro X hP hw hK hc i pins s σ H E I hf ⟨⟨old, he⟩, hit, hne, hea, hai⟩ ⟨xs, hq, hx⟩
    subst hP hw hK
    obtain ⟨its, rv, p, hz⟩ := I.tuple hq
    obtain ⟨f0, f1, f2, f3, f4, f5⟩ := hf it (by simp)
    have hh : X.A.in1.handled = none := I.ok.hd hc
    have hl := rv.length
    have e1 : i = its.toArray.size := by simp; omega
    exact wpAny_pyNext_enum_endD (Draws.tuple hh it a hai its.toArray) he ⟨e1 ▸ hit, p⟩ fun h' eb => ⟨rfl, I.turned (t' := s.toks) (fun b o hb q => eb b o hb q) f0 f1 f3 f4 f5⟩
  self := fun A i s Q E ⟨⟨_, he⟩, _⟩ h => wpAny_pyIter_enum he h
theorem newT (l : Addr) (items : Array Value) (n : Nat) (dct : Option Addr) (sl : Array (Option Value)) :
    Meets (Builtin.«enumerate.__new__» ⟨[.type "enumerate", .ref l], []⟩) (fun _ R s => s.heap.get? l = some { cls := .type "tuple", dict := dct, data := .seq items n, slots := sl } ∧
      R (.ok (.ret (.ref (s.heap.push { cls := .type "tuple_iterator", data := .fields #[.ref l, .int 0 0] }).objs.size)))
        { s with heap := (s.heap.push { cls := .type "tuple_iterator", data := .fields #[.ref l, .int 0 0] }).push { cls := .type "enumerate", data := .fields #[.none, .bool false, .ref s.heap.objs.size, rawInt 0, .none, .none] } }) :=
  .of_wp fun prog w A R s ⟨hl, h⟩ => by
    obtain ⟨hp, g, d, tk, os⟩ := s
    have hsub := sub_enumerate
    have hL : Heap.IsTuple (Shared.heap ⟨hp, g, d, tk, os⟩) l items := ⟨_, hl, rfl, n, rfl⟩
    wp_walk using wpAny_loadPart' hl
    refine wpAny_stack_any fun st => wpAny_pure ?_
    split
    · rename_i c _ _ _ _ _
      cases (c == Value.type "enumerate") <;> (wp_walk using wpAny_loadPart' hl, wpAny_pyIter_tuple hL; exact ⟨_, rfl, h⟩)
    · wp_walk using wpAny_loadPart' hl, wpAny_pyIter_tuple hL
      exact ⟨_, rfl, h⟩
theorem call_enumT {prog : Program} {w : World} {A : Around} {E : Value → Shared → Prop} {s : Shared} {l : Addr} {items : Array Value} {Q : Value → Shared → Prop} (hL : s.heap.IsTuple l items)
    (h : ∀ h', IsEnum h' (s.heap.objs.size + 1) s.heap.objs.size 0 .none → h'.IsTupleIter s.heap.objs.size l 0 → (∀ b o, s.heap.get? b = some o → h'.get? b = some o) → Q (.ref (s.heap.objs.size + 1)) { s with heap := h' }) :
    wpAny (model prog w) A (call (.type "enumerate") [.ref l]) Q E s := by
  obtain ⟨⟨c, dct, dt, sl⟩, hl, hc, n, hd⟩ := hL
  cases hc
  cases hd
  refine callType_new F.called_enumerate (by decide) (F.typeCall_enumerate_1 _) (F.newCall_enumerate_1 _) (fun obj => F.args_object_init_2 obj _) F.entry_enumerate_new (newT l items n dct sl) ⟨hl, ?_⟩
  generalize h1 : s.heap.push { cls := .type "tuple_iterator", data := .fields #[.ref l, .int 0 0] } = hp1
  have hz : hp1.objs.size = s.heap.objs.size + 1 := by rw [← h1]; exact Heap.size_push ..
  have hi : hp1.get? s.heap.objs.size = some { cls := .type "tuple_iterator", data := .fields #[.ref l, .int 0 0] } := by rw [← h1]; exact Heap.get?_push_size _ rfl
  have hk : ∀ b o, s.heap.get? b = some o → hp1.get? b = some o := fun b o x => by rw [← h1]; exact Heap.get?_push_of_some _ x
  show _ ∧ _
  rw [hz]
  have he : IsEnum (hp1.push { cls := .type "enumerate", data := .fields #[.none, .bool false, .ref s.heap.objs.size, rawInt 0, .none, .none] }) (s.heap.objs.size + 1) s.heap.objs.size 0 .none := by
    rw [← hz]
    exact Heap.get?_push_size _ rfl
  exact ⟨⟨_, he, rfl⟩, h _ he ⟨_, Heap.get?_push_of_some _ hi, rfl, rfl⟩ fun b o x => Heap.get?_push_of_some _ (hk b o x)⟩
def iEnumT (K : PySem.W.Frag) (ta : TA) : TI := fun σ H R => ta σ H fun vs H1 => ∃ a xs, vs = [.ref a] ∧ SqT K H1 a xs ∧ R (IteT K a) H1
theorem pi_enumT {X : Cx} {e : Expr} {ta : TA} {p pos tpos : Pos} {elts : List Expr} {kk : Nat} (hg : Gl X "enumerate") (hm : X.mg "enumerate" = none) (ha : PA X [e] ta) (hs : starEach [e] X.env = [(false, eval e X.env)] := by rfl) :
    PI X (.Tuple elts kk tpos) (.Call (.Name "enumerate" p) [e] [] pos) (iEnumT X.K ta) := by
  refine ⟨fun pins s σ H R I h => ?_⟩
  refine Call_ (ld_blt I hg hm boot_enumerate (PyProof.Rows.callWith_type1 (thn (ha.run pos pins s σ H _ I h) fun us s1 ⟨vs, H1, I1, r1, a, xs, ex, hq, q⟩ => ?_) hs rfl))
  subst ex
  cases r1 with
  | cons r rr =>
    cases rr
    cases r
    obtain ⟨its, rv, p', hz⟩ := I1.tuple hq
    have hal : a < s1.heap.objs.size := by obtain ⟨o, ho, _⟩ := p'; exact Heap.lt_size ho
    refine call_enumT p' fun h' he hit hk => wpAny_pyIter_enum he ?_
    have I2 : Inv X pins σ H1 { s1 with heap := h' } := I1.kept (t' := s1.toks) hk
    refine ⟨s1.heap.objs.size + 1, [s1.heap.objs.size + 1, s1.heap.objs.size], _, _, H1, rfl, I2, turn_enumT a (s1.heap.objs.size + 1) s1.heap.objs.size, ⟨⟨.none, he⟩, hit, Nat.succ_ne_self _, Nat.ne_of_gt (Nat.lt_succ_of_lt hal), Nat.ne_of_lt hal⟩, fun b hb => ?_, q⟩
    have hle : s1.heap.objs.size ≤ b := by
      rcases List.mem_cons.mp hb with z | z
      · rw [z]; exact Nat.le_add_right _ _
      · obtain rfl : b = s1.heap.objs.size := by simpa using z
        exact Nat.le_refl _
    exact I1.fpOk hle (I1.hok.fresh hle)
theorem walk_enumT {K : PySem.W.Frag} {a : Addr} {xs : List V} : Walk (IteT K a) xs.length (fun H => SqT K H a xs) (YPair (fun i => some (.int (i : Nat))) (fun i => xs[i]?)) :=
  ⟨fun i _ hi q => ⟨xs, xs[i], q, by simp [hi]⟩, fun _ q => ⟨xs, q, rfl⟩, fun i H v H' _ q ⟨T, x, h1, h2, h3, h4⟩ => ⟨T, .int (i : Nat), x, h1, h2, h3, rfl, h4 xs q⟩⟩
/-- for i, x in enumerate(tuple) -/
theorem id_enumT {X : Cx} {δ : De} {e : Expr} {ds : List Dt} {p pos : Pos} {elts : List Expr} {kk : Nat} {tpos : Pos} (h : EA X δ [e] [.tup ds]) (hm : X.mg "enumerate" = none) (hg : Gl X "enumerate" := by rfl) (hs : starEach [e] X.env = (false, eval e X.env) :: starEach [] X.env := by rfl) : ID X δ (.Tuple elts kk tpos) (.Call (.Name "enumerate" p) [e] [] pos) (enumD ds) :=
  PI.imp (pi_enumT hg hm h (hs := hs)) fun σ H R ⟨O, G, e, s, k⟩ => ⟨O, G, e, s, fun vs G1 H1 f1 r1 => by
    cases r1 with
    | cons r1 r2 =>
    cases r2
    cases r1 with
    | tup hx rx =>
    rename_i a xs
    have sq : ∀ {G2 H2 : Hp}, Same G1 G2 → Same G2 H2 → SqT X.K H2 a xs := fun e1 e2 => .of (e2 _ _ (e1 _ _ hx))
    refine ⟨_, _, rfl, .of (f1.s _ _ hx), k _ G1 H1 f1 fun G2 H2 e1 e2 => ?_⟩
    rw [enumD_len, ← rx.length]
    refine ⟨fun i hi => walk_enumT.goes i H2 hi (sq e1 e2), walk_enumT.stops H2 (sq e1 e2), fun i x H3 hi y => ?_⟩
    obtain ⟨T, x1, x2, rfl, hT, rfl, h1, h2⟩ := walk_enumT.yields i H2 x H3 hi (sq e1 e2) y
    cases h1
    obtain ⟨d, g1, g2⟩ := rx.get' h2
    obtain ⟨f, r⟩ := new_tup (W := []) e2 hT (RpL.cons (.int (i : Int)) (.cons (g2.mono e1) .nil))
    exact ⟨_, _, enumD_get g1, f, r⟩⟩
end AL
end
/-! AL11 -/
section
set_option Elab.async false
set_option linter.all false
set_option maxRecDepth 100000
set_option maxHeartbeats 4000000
namespace AL
open PySem L2
/-! ### objects of own classes, made -/
theorem own_write {K : PySem.W.Frag} {W : List Addr} {G0 H0 G H : Hp} {σ : St} {δ : De} {i : Nat} {l : Addr} {o : HO} {s0 s' : Sd} (fr : Fr W G0 H0 G H) (sl : Sl K ⟨W, H0⟩ G H σ δ) (h : δ[i]? = some (some s0)) (hin : l ∈ s0.fp (.ref l)) (hl : σ[i]? = some (some (.ref l))) (g : G l = none) (h0 : H0 l = none ∨ l ∈ W)
    (ok : SdOk K ⟨W, H0⟩ G (upd H l o) (.ref l) s') (hfp : ∀ l' ∈ s'.fp (.ref l), l' = l) : Af K W G0 H0 G σ (δ.set i (some s')) (upd H l o) := by
  refine ⟨G, Same.refl _, fr.write h0 g, ?_⟩
  rw [← set_self hl]
  have e1 : ∀ l', l' ∈ s'.fp (.ref l) → l' = l := hfp
  have e0 : l ∈ s0.fp (.ref l) := hin
  refine sl.put i (s := s') ok (Same.refl _) (fun j s2 w hj q hw l' hl' => ?_) fun j s2 w hj q hw l' hl' z => ?_
  · have hne : l' ≠ l := fun z => sl.ne j i s2 s0 w _ hj q h hw hl l' hl' (by rw [z]; exact e0)
    exact ⟨fun o2 ho => by rw [upd_ne hne]; exact ho, (sl.keep q hw l' hl').2⟩
  · exact sl.ne j i s2 s0 w _ hj q h hw hl l' hl' (by rw [e1 l' z]; exact e0)
def putN (f : Str) : List Str → List Str
  | [] => [f]
  | g :: r => if g = f then g :: r else g :: putN f r
def putV (f : Str) (d : Dt) : List Str → List Dt → List Dt
  | [], _ => [d]
  | _ :: _, [] => []
  | g :: r, x :: xs => if g = f then d :: xs else x :: putV f d r xs
theorem putF_rp {K : PySem.W.Frag} {G : Hp} {f : Str} {v : V} {d : Dt} (r : Rp K G v d) : ∀ {fs : List (Str × V)} {ns : List Str} {ds : List Dt}, fs.map (·.1) = ns → RpL K G (fs.map (·.2)) ds → (putF f v fs).map (·.1) = putN f ns ∧ RpL K G ((putF f v fs).map (·.2)) (putV f d ns ds)
  | [], ns, ds, hn, h => by
    cases hn
    cases h
    exact ⟨rfl, .cons r .nil⟩
  | (g, x) :: fs, ns, ds, hn, h => by
    cases hn
    cases h with
    | cons h1 h2 =>
    rw [show putF f v ((g, x) :: fs) = (if g = f then (g, v) :: fs else (g, x) :: putF f v fs) from rfl]
    simp only [List.map_cons, putN, putV]
    by_cases e : g = f
    · rw [if_pos e, if_pos e, if_pos e]
      exact ⟨rfl, .cons r h2⟩
    · rw [if_neg e, if_neg e, if_neg e]
      obtain ⟨i1, i2⟩ := putF_rp r (fs := fs) rfl h2
      exact ⟨by rw [List.map_cons, i1], .cons h1 i2⟩
section
variable {X : Cx} {W : List Addr} {δ : De} {D : EndsD} {e : Expr} {d : Dt} {rest : List Stmt} {p p2 pos : Pos} {ns : List Str} {ds : List Dt} {C q : Addr}
/-- self.f = e, self being made -/
theorem sds_fld (i : Nat) {x f : Str} (he : ED X δ e d) (c : Cls X.K C) (n : NoAttr X.K C f) (hr : SDs X W (δ.set i (some (.ob q C (putN f ns) (putV f d ns ds)))) rest D) (h : δ[i]? = some (some (.ob q C ns ds)) := by rfl) (hz : ns.length < 1000 := by decide) (hN : X.N[i]? = some x := by rfl)
    (hv : Vis X.env.scope x := by first | exact Or.inl rfl | exact Or.inr (Or.inl rfl) | exact Or.inr (Or.inr rfl)) (hdb : (x == ("__debug__" : Str)) = false := by decide) (hcd : (x == ("__classdict__" : Str)) = false := by decide)
    (hs : swapsWith e (some (.Attribute (.Name x p2) f p)) pos.line X.env = pure false := by rfl) : SDs X W δ (.Assign [.Attribute (.Name x p2) f p] e pos :: rest) D :=
  sds_cons (M := fun δ' => δ' = δ.set i (some (.ob q C (putN f ns) (putV f d ns ds)))) (PS.imp (ps_fld (pv i hN hv hdb hcd) he hs) fun E σ H ⟨G0, H0, G, fr, sl, k⟩ => ⟨_, G, fr.s, sl, fun v G1 H1 f1 r1 => by
    obtain ⟨fr1, sl1⟩ := go fr sl f1
    obtain ⟨w, g1, dx, fs, rfl, g2, g3, g4, g5, g6⟩ := sl1.at_ i _ h
    obtain ⟨p1, p2'⟩ := putF_rp (f := f) r1 g3 g4
    refine ⟨_, g1, q, C, dx, fs, rfl, g2, c, n, by rw [← List.length_map (f := (·.1)), g3]; exact hz, k.nx _ _ _ (Af.of f1.g (own_write (s' := .ob q C (putN f ns) (putV f d ns ds)) fr1 sl1 h (List.mem_cons_self ..) g1 g5 g6 ⟨dx, _, rfl, upd_same, p1, p2', g5, g6⟩ fun l' z => List.mem_singleton.mp z)) rfl⟩⟩) fun δ' z => z ▸ hr
/-- self.f, self being made -/
theorem ed_fldOb (i : Nat) {x f : Str} (c : Cls X.K C) (n : NoAttr X.K C f) (h : δ[i]? = some (some (.ob q C ns ds)) := by rfl) (hf : fget ns ds f = some d := by rfl) (hN : X.N[i]? = some x := by rfl)
    (hv : Vis X.env.scope x := by first | exact Or.inl rfl | exact Or.inr (Or.inl rfl) | exact Or.inr (Or.inr rfl)) (hdb : (x == ("__debug__" : Str)) = false := by decide) (hcd : (x == ("__classdict__" : Str)) = false := by decide)
    (hb : attributeBase (.Name x p2) f X.env (eval (.Name x p2) X.env) = eval (.Name x p2) X.env := by rfl) : ED X δ (.Attribute (.Name x p2) f pos) d :=
  PE.imp (pe_fld (pv i hN hv hdb hcd) hb) fun σ H Q ⟨O, G, e, sl, k⟩ => by
    obtain ⟨w, g1, dx, fs, rfl, g2, g3, g4, g5, g6⟩ := sl.at_ i _ h
    obtain ⟨v, h1, h2⟩ := fget_at g3 g4 hf
    exact ⟨_, g1, q, C, dx, fs, v, rfl, g2, c, n, h1, k v G H (Fr.refl e) h2⟩
end
/-- what an __init__ promises: R tells the attributes that it makes of the arguments -/
def spI (K : PySem.W.Frag) (C : Addr) (R : List Dt → List Str → List Dt → Prop) (m : Nat) : Sp := fun vs H Q _ => ∃ (G : Hp) (p dx : Addr) (as : List V) (ds fds : List Dt) (ns : List Str), vs = .ref p :: as ∧ ds.length + 1 = m ∧ Same G H ∧ H p = some (.ins C dx []) ∧ G p = none ∧ RpL K G as ds ∧ R ds ns fds ∧
  ∀ fs dx' G' H', Fr [p] G H G' H' → H' p = some (.ins C dx' fs) → fs.map (·.1) = ns → RpL K G' (fs.map (·.2)) fds → G' p = none → Q .non H'
abbrev obD (N : List Str) (q C : Addr) (ds : List Dt) : De := (argsD N (.adr q :: ds)).set 0 (some (.ob q C [] []))
section
variable {P : Program} {w : World} {K : PySem.W.Frag} {mg : Str → Option Value} {base : Heap} {x qual : Str} {params : Arguments} {body : List Stmt} {scope : Scope} {dvs : List V} {f C : Addr} {fd : FuncData} {N ps : List Str} {k m : Nat} {R : List Dt → List Str → List Dt → Prop}
theorem args_sh {ds : List Dt} {i : Nat} {s : Sd} (hs : (argsD N ds)[i]? = some (some s)) : ∃ d, s = .sh d := by
  unfold argsD at hs
  by_cases hi : i < ds.length
  · rw [List.getElem?_append_left (by simpa using hi), List.getElem?_map] at hs
    cases z : ds[i]? with
    | none => rw [z] at hs; cases hs
    | some d => rw [z] at hs; cases hs; exact ⟨d, rfl⟩
  · rw [List.getElem?_append_right (by simpa using hi), List.getElem?_replicate] at hs
    split at hs <;> cases hs
theorem start_ob {O : Og} {G H : Hp} {q dx : Addr} {as : List V} {ds : List Dt} (e : Same G H) (hp : H q = some (.ins C dx [])) (gp : G q = none) (hO : O.H0 q = none ∨ q ∈ O.W) (r : RpL K G as ds) (hN : 0 < N.length) : Sl K O G H (start N (.ref q :: as)) (obD N q C ds) := by
  have s0 := Sl.start (O := O) (H := H) (N := N) (RpL.cons (Rp.adr (K := K) (G := G) q) r)
  have h0 : (start N (.ref q :: as))[0]? = some (some (.ref q)) := by
    unfold L2.start
    simp
  rw [← set_self h0]
  refine s0.putN 0 (s := .ob q C [] []) ⟨dx, [], rfl, hp, rfl, .nil, gp, hO⟩ fun i s' w hs hw l hl => ?_
  obtain ⟨d, rfl⟩ := args_sh hs
  rw [fp_sh] at hl
  cases hl
theorem fnOkI_of {kws : List (Str × V)} (F : FunD K x qual params body scope dvs kws f fd) (S : FnScope N ps scope) (hm : ps.length = m) (hN : 0 < N.length)
    (hb : ∀ (cdv : Value) (A : Around) (outer : List Env) (s : Shared) (H : Hp) (E : XK) (q : Addr) (ds fds : List Dt) (ns : List Str), Room k (A.deeper (PyProof.Rows.envOfC qual scope s.heap.objs.size f cdv)) → R ds ns fds →
      SDs (cxOf CX0 P w K mg base N qual scope f cdv A outer s H E).nox [q] (obD N q C ds) body { rt := fun _ _ => False, nx := fun δ' => δ'[0]? = some (some (.ob q C ns fds)) }) : FnOk P w K mg base CX0 (k + 1) f fd ps (spI K C R m) := by
  refine F.ok S (fun vs H Q E ⟨G, p, dx, as, ds, fds, ns, h1, h2, _, _, _, h3, _⟩ => by rw [h1, List.length_cons, h3.length, h2, hm]) fun cdv A outer s H vs Q E hr ⟨G, p, dx, as, ds, fds, ns, h1, h2, e, hp, gp, r, hR, q⟩ => ?_
  subst h1
  refine ⟨_, PSs.nox (hb cdv A outer s H E p ds fds ns hr hR), G, H, G, Fr.refl e, start_ob e hp gp (.inr (List.mem_cons_self ..)) r hN, ?_, ?_, fun _ _ _ _ z => z.elim, fun _ _ _ _ z => z.elim⟩
  · rintro σ' δ' H' ⟨G', e', fr, sl⟩ hd
    obtain ⟨w, g1, dx', fs, rfl, g2, g3, g4, g5, g6⟩ := sl.at_ 0 _ hd
    exact q fs dx' G' H' fr g2 g3 g4 g5
  · intro v d' σ' δ' G' H' _ fr _ r' z
    exact z.elim
end
/-- a class that may be called by its name -/
structure MakP (P : Program) (w : World) (K : PySem.W.Frag) (mg : Str → Option Value) (base : Heap) (k : Nat) (x : Str) (C : Addr) (R : List Dt → List Str → List Dt → Prop) (m : Nat) : Prop where
  ex : ∃ (f : Addr) (fd : FuncData) (ps : List Str), Mk K C f ∧ FnOk P w K mg base CX0 k f fd ps (spI K C R m) ∧ mg x = some (.ref C) ∧ Binds K fd ps []
theorem upd2_none {H : Hp} {a b c : Addr} {o o' : HO} (h : upd (upd H a o) b o' c = none) : H c = none := by
  unfold upd at h
  split at h
  · cases h
  · split at h
    · cases h
    · exact h
section
variable {X : Cx} {δ : De} {e : Expr} {es : List Expr} {x : Str} {C : Addr} {p pos : Pos} {k j m : Nat} {ds fds : List Dt} {ns : List Str} {R : List Dt → List Str → List Dt → Prop}
theorem make_read {K : PySem.W.Frag} {G H : Hp} {as : List V} {Q : VK} (e : Same G H) (r : RpL K G as ds) (hR : R ds ns fds) (hl : ds.length + 1 = m) (q : ∀ v G' H', Fr [] G H G' H' → Rp K G' v (.ins C ns fds) → Q v H') :
    ∀ y dx, H y = none → H dx = none → dx ≠ y → spI K C R m (.ref y :: (as ++ [])) (upd (upd H dx (.own y)) y (.ins C dx [])) (fun v H2 => v = .non ∧ Q (.ref y) H2) E0 := by
  intro y dx hy hd hne
  rw [List.append_nil]
  have f1 : Fr [] G H G (upd H dx (.own y)) := Fr.fresh e hd
  have hy1 : upd H dx (.own y) y = none := by rw [upd_ne (Ne.symm hne)]; exact hy
  have f2 : Fr [] G H G (upd (upd H dx (.own y)) y (.ins C dx [])) := f1.trans (Fr.fresh f1.s hy1)
  have gy : G y = none := e.free hy
  refine ⟨G, y, dx, as, ds, fds, ns, rfl, hl, f2.s, upd_same, gy, r, hR, fun fs dx' G' H' fr h1 h2 h3 h4 => ⟨rfl, ?_⟩⟩
  have f3 : Fr [] G H G' H' := ⟨fr.g, fr.s, fun b o _ hb => fr.h b o (fun z => by
      obtain rfl : b = y := by simpa using z
      rw [hy] at hb
      cases hb) (f2.same _ _ hb), fun b hb gb => fr.n b (fun z => hb (upd2_none z)) gb, fun b hb => fr.t b fun z => hb (upd2_none z)⟩
  refine q (.ref y) (upd G' y (.ins C dx' fs)) H' (f3.freeze hy h1 h4) (.ins upd_same h2 (h3.mono fun c o z => ?_))
  rw [upd_ne (ne_of_none z h4)]
  exact z
theorem ed_make (c : MakP X.prog X.w X.K X.mg X.base k x C R m) (hr : Room j X.A) (ha : EA X δ (e :: es) ds) (hR : R ds ns fds) (hk : k + 1 ≤ j := by decide) (hl : ds.length + 1 = m := by rfl) (hg : Gl X x := by rfl) (hdb : (x == ("__debug__" : Str)) = false := by decide)
    (he : starEach (e :: es) X.env = (false, eval e X.env) :: starEach es X.env := by rfl) (hpl : (backTo pos (starEach es X.env)).any (·.1) = false := by rfl) : ED X δ (.Call (.Name x p) (e :: es) [] pos) (.ins C ns fds) := by
  obtain ⟨f, fd, ps, M, F, hm, b⟩ := c.ex
  exact PE.imp (pe_make M F (hr.mono hk) hg hm b .nil pass0 ha hdb he hpl) fun σ H Q ⟨O, G, e, s, q⟩ => ⟨O, G, e, s, fun vs G1 H1 f1 r1 => make_read f1.s r1 hR hl fun v G2 H2 f2 r2 => q v G2 H2 (f1.trans f2) r2⟩
theorem ed_make0 (c : MakP X.prog X.w X.K X.mg X.base k x C R m) (hr : Room j X.A) (hR : R [] ns fds) (hk : k + 1 ≤ j := by decide) (hl : 1 = m := by rfl) (hg : Gl X x := by rfl) (hdb : (x == ("__debug__" : Str)) = false := by decide) : ED X δ (.Call (.Name x p) [] [] pos) (.ins C ns fds) := by
  obtain ⟨f, fd, ps, M, F, hm, b⟩ := c.ex
  exact PE.imp (pe_make0 M F (hr.mono hk) hg hm b .nil pass0 hdb) fun σ H Q ⟨O, G, e, s, q⟩ => make_read e .nil hR hl q
end
end AL
end
/-! AL14 -/
section
set_option Elab.async false
set_option linter.all false
set_option maxRecDepth 100000
set_option maxHeartbeats 4000000
namespace AL
open PySem L2
/-! ### expressions that change one slot's object -/
/-- what a slot may come to hold: x its state, W what it owns -/
structure Eff where
  ι : Type
  sd : ι → Sd
  W : List Addr
  fp : ∀ (K : PySem.W.Frag) (O : Og) (G H : Hp) (v : V) (x : ι), SdOk K O G H v (sd x) → (sd x).fp v = W ∧ ∀ a ∈ W, O.may a
/-- e gives d, and the slot i is at x behind it: Φ -/
def tF (F : Eff) (i : Nat) (K : PySem.W.Frag) (δ : De) (Φ : Dt → F.ι → Prop) : TE := fun σ H Q => ∃ (O : Og) (G : Hp), Same G H ∧ Sl K O G H σ δ ∧ ∀ v d x G' H', Fr F.W G H G' H' → Sl K O G' H' σ (δ.set i (some (F.sd x))) → Rp K G' v d → Φ d x → Q v H'
def tFT (F : Eff) (i : Nat) (K : PySem.W.Frag) (δ : De) (Φ : Bool → F.ι → Prop) : TT := fun σ H Q => ∃ (O : Og) (G : Hp), Same G H ∧ Sl K O G H σ δ ∧ ∀ b x G' H', Fr F.W G H G' H' → Sl K O G' H' σ (δ.set i (some (F.sd x))) → Φ b x → Q b H'
def tFA (F : Eff) (i : Nat) (K : PySem.W.Frag) (δ : De) (Φ : List Dt → F.ι → Prop) : TA := fun σ H Q => ∃ (O : Og) (G : Hp), Same G H ∧ Sl K O G H σ δ ∧ ∀ vs ds x G' H', Fr F.W G H G' H' → Sl K O G' H' σ (δ.set i (some (F.sd x))) → RpL K G' vs ds → Φ ds x → Q vs H'
abbrev EF (F : Eff) (i : Nat) (X : Cx) (δ : De) (e : Expr) (Φ : Dt → F.ι → Prop) : Prop := PE X e (tF F i X.K δ Φ)
abbrev ETF (F : Eff) (i : Nat) (X : Cx) (δ : De) (e : Expr) (Φ : Bool → F.ι → Prop) : Prop := PT X e (tFT F i X.K δ Φ)
abbrev EAF (F : Eff) (i : Nat) (X : Cx) (δ : De) (es : List Expr) (Φ : List Dt → F.ι → Prop) : Prop := PA X es (tFA F i X.K δ Φ)
theorem OpR.ex {X : Cx} {f : Value → Value → Sem Value} {ι : Sort _} {r : ι → R2} (h : ∀ i, OpR X f (r i)) : OpR X f (fun x y H Q => ∃ i, r i x y H Q) := fun pins s σ H x y v u Q I rx ry ⟨i, q⟩ => h i pins s σ H x y v u Q I rx ry q
theorem CallR.ex {X : Cx} {f : Value} {ι : Sort _} {r : ι → List V → Hp → VK → Prop} (h : ∀ i, CallR X f (r i)) : CallR X f (fun x H Q => ∃ i, r i x H Q) := fun pins s σ H x v Q I rx ⟨i, q⟩ => h i pins s σ H x v Q I rx q
theorem PA.ex {X : Cx} {e : List Expr} {ι : Sort _} {t : ι → TA} (h : ∀ i, PA X e (t i)) : PA X e (fun σ H Q => ∃ i, t i σ H Q) := ⟨fun pos pins s σ H Q I ⟨i, q⟩ => (h i).run pos pins s σ H Q I q⟩
section
variable {F : Eff} {i : Nat} {X : Cx} {δ : De} {e a b c : Expr} {es : List Expr} {d : Dt} {ds : List Dt} {Φ Ψ : Dt → F.ι → Prop} {x : F.ι} {pos p : Pos}
theorem ef_ed (x : F.ι) (h : ED X δ e d) (hΦ : Φ d x) (hx : δ[i]? = some (some (F.sd x)) := by rfl) : EF F i X δ e Φ := PE.imp h fun σ H Q ⟨O, G, e, s, q⟩ => ⟨O, G, e, s, fun v G' H' f r => q v d x G' H' f.wide (by rw [set_self hx]; exact s.mono f) r hΦ⟩
theorem etf_et {k : Bool} {Φ : Bool → F.ι → Prop} (x : F.ι) (h : ET X δ e k) (hΦ : Φ k x) (hx : δ[i]? = some (some (F.sd x)) := by rfl) : ETF F i X δ e Φ := PT.imp h fun σ H Q ⟨O, G, e, s, q⟩ => ⟨O, G, e, s, fun G' H' f => q k x G' H' f.wide (by rw [set_self hx]; exact s.mono f) hΦ⟩
theorem ef_imp (h : EF F i X δ e Φ) (k : ∀ d x, Φ d x → Ψ d x) : EF F i X δ e Ψ := PE.imp h fun σ H Q ⟨O, G, e, s, q⟩ => ⟨O, G, e, s, fun v d x G' H' f s' r hΦ => q v d x G' H' f s' r (k d x hΦ)⟩
theorem eaf_nil {Φ : List Dt → F.ι → Prop} (x : F.ι) (hΦ : Φ [] x) (hx : δ[i]? = some (some (F.sd x)) := by rfl) : EAF F i X δ [] Φ := PA.imp pa_nil fun σ H Q ⟨O, G, e, s, q⟩ => q [] [] x G H (Fr.refl e) (by rw [set_self hx]; exact s) .nil hΦ
theorem eaf_cons {Φ : List Dt → F.ι → Prop} (Ψ : Dt → F.ι → Prop) (h : EF F i X δ e Ψ) (hr : ∀ d x, Ψ d x → EAF F i X (δ.set i (some (F.sd x))) es fun ds x => Φ (d :: ds) x) (hs : starEach (e :: es) X.env = (false, eval e X.env) :: starEach es X.env := by rfl) : EAF F i X δ (e :: es) Φ :=
  PA.imp (pa_cons h (PA.ex fun p : { p : Dt × F.ι // Ψ p.1 p.2 } => hr p.1.1 p.1.2 p.2) hs) fun σ H Q ⟨O, G, e, s, q⟩ => ⟨O, G, e, s, fun v d x G1 H1 f1 s1 r1 h1 => ⟨⟨(d, x), h1⟩, O, G1, f1.s, s1, fun vs ds x' G2 H2 f2 s2 r2 h2 => q _ (d :: ds) x' G2 H2 (f1.trans f2) (by rw [List.set_set] at s2; exact s2) (.cons (r1.mono f2.g) r2) h2⟩⟩
theorem eaf_ea {Φ : List Dt → F.ι → Prop} (x : F.ι) (h : EA X δ es ds) (hΦ : Φ ds x) (hx : δ[i]? = some (some (F.sd x)) := by rfl) : EAF F i X δ es Φ := PA.imp h fun σ H Q ⟨O, G, e, s, q⟩ => ⟨O, G, e, s, fun v G' H' f r => q v ds x G' H' f.wide (by rw [set_self hx]; exact s.mono f) r hΦ⟩
/-- a + b, both may change the slot -/
theorem ef_bin {op : Operator} (Ψ : Dt → F.ι → Prop) (ha : EF F i X δ a Ψ) (Θ : Dt → F.ι → Dt → F.ι → Prop) (hb : ∀ d x, Ψ d x → EF F i X (δ.set i (some (F.sd x))) b (Θ d x)) (ho : ∀ d x d' x', Ψ d x → Θ d x d' x' → ∃ r, OpD X (binaryOp op) d d' r ∧ Φ r x') : EF F i X δ (.BinOp a op b pos) Φ :=
  PE.imp (pe_op (OpR.ex fun p : { p : Dt × Dt × Dt // OpD X (binaryOp op) p.1 p.2.1 p.2.2 } => p.2) ha (PE.ex fun p : { p : Dt × F.ι // Ψ p.1 p.2 } => hb p.1.1 p.1.2 p.2)) fun σ H Q ⟨O, G, e, s, q⟩ => ⟨O, G, e, s, fun v d x G1 H1 f1 s1 r1 h1 => ⟨⟨(d, x), h1⟩, O, G1, f1.s, s1, fun w d' x' G2 H2 f2 s2 r2 h2 => by
    obtain ⟨r, o, hΦ⟩ := ho d x d' x' h1 h2
    rw [List.set_set] at s2
    exact ⟨⟨(d, d', r), o⟩, G2, f2.s, r1.mono f2.g, r2, fun u G3 H3 f3 r3 => q u r x' G3 H3 ((f1.trans f2).trans f3.wide) (s2.mono f3) r3 hΦ⟩⟩⟩
theorem ef_cmp {op : CmpOp} (Ψ : Dt → F.ι → Prop) (ha : EF F i X δ a Ψ) (Θ : Dt → F.ι → Dt → F.ι → Prop) (hb : ∀ d x, Ψ d x → EF F i X (δ.set i (some (F.sd x))) b (Θ d x)) (ho : ∀ d x d' x', Ψ d x → Θ d x d' x' → ∃ r, OpD X (compareOp op) d d' r ∧ Φ r x') (hm : behindInMarks op b = false := by first | exact nomark _ | rfl) : EF F i X δ (.Compare a [op] [b] pos) Φ :=
  PE.imp (pe_cmpR (OpR.ex fun p : { p : Dt × Dt × Dt // OpD X (compareOp op) p.1 p.2.1 p.2.2 } => p.2) ha (PE.ex fun p : { p : Dt × F.ι // Ψ p.1 p.2 } => hb p.1.1 p.1.2 p.2) hm) fun σ H Q ⟨O, G, e, s, q⟩ => ⟨O, G, e, s, fun v d x G1 H1 f1 s1 r1 h1 => ⟨⟨(d, x), h1⟩, O, G1, f1.s, s1, fun w d' x' G2 H2 f2 s2 r2 h2 => by
    obtain ⟨r, o, hΦ⟩ := ho d x d' x' h1 h2
    rw [List.set_set] at s2
    exact ⟨⟨(d, d', r), o⟩, G2, f2.s, r1.mono f2.g, r2, fun u G3 H3 f3 r3 => q u r x' G3 H3 ((f1.trans f2).trans f3.wide) (s2.mono f3) r3 hΦ⟩⟩⟩
theorem etf_cmp {op : CmpOp} {Φ : Bool → F.ι → Prop} (Ψ : Dt → F.ι → Prop) (ha : EF F i X δ a Ψ) (hb : ∀ d x, Ψ d x → ∃ d', ED X (δ.set i (some (F.sd x))) b d' ∧ ∃ k, OpD X (compareOp op) d d' (.bl k) ∧ Φ k x) (hm : behindInMarks op b = false := by first | exact nomark _ | rfl) : ETF F i X δ (.Compare a [op] [b] pos) Φ :=
  PT.imp (pt_cmpR (OpR.ex fun p : { p : Dt × Dt × Dt // OpD X (compareOp op) p.1 p.2.1 p.2.2 } => p.2) ha (PE.ex fun p : { p : Dt × F.ι × Dt // Ψ p.1 p.2.1 ∧ ED X (δ.set i (some (F.sd p.2.1))) b p.2.2 } => p.2.2) hm) fun σ H Q ⟨O, G, e, s, q⟩ => ⟨O, G, e, s, fun v d x G1 H1 f1 s1 r1 h1 => by
    obtain ⟨d', he, k, o, hΦ⟩ := hb d x h1
    exact ⟨⟨(d, x, d'), h1, he⟩, O, G1, f1.s, s1, fun w G2 H2 f2 r2 => ⟨⟨(d, d', .bl k), o⟩, G2, f2.s, r1.mono f2.g, r2, fun u G3 H3 f3 r3 => by
      cases r3
      exact ⟨_, rfl, q k x G3 H3 ((f1.trans f2.wide).trans f3.wide) ((s1.mono f2).mono f3) hΦ⟩⟩⟩⟩
/-- a if c else b -/
theorem ef_if {k : Bool} (hc : ET X δ c k) (ha : k = true → EF F i X δ a Φ) (hb : k = false → EF F i X δ b Φ) : EF F i X δ (.IfExp c a b pos) Φ := by
  cases k with
  | true => exact PE.imp (pe_ifExp hc (ha rfl) (tb := fun _ _ _ => False) ⟨fun _ _ _ _ _ _ z => z.elim⟩) fun σ H Q ⟨O, G, e, s, q⟩ => ⟨O, G, e, s, fun G1 H1 f1 => iteT ⟨O, G1, f1.s, s.mono f1, fun w d x G2 H2 f2 s2 r2 h2 => q w d x G2 H2 (f1.wide.trans f2) s2 r2 h2⟩⟩
  | false => exact PE.imp (pe_ifExp hc (ta := fun _ _ _ => False) ⟨fun _ _ _ _ _ _ z => z.elim⟩ (hb rfl)) fun σ H Q ⟨O, G, e, s, q⟩ => ⟨O, G, e, s, fun G1 H1 f1 => iteF ⟨O, G1, f1.s, s.mono f1, fun w d x G2 H2 f2 s2 r2 h2 => q w d x G2 H2 (f1.wide.trans f2) s2 r2 h2⟩⟩
/-- (..,), [..] -/
theorem ef_tup {k : Nat} {Ψ : List Dt → F.ι → Prop} (h : EAF F i X δ es Ψ) (hΨ : ∀ ds x, Ψ ds x → ds.length ≤ 1000 ∧ Φ (.tup ds) x) : EF F i X δ (.Tuple es k pos) Φ :=
  PE.imp (pe_tup h) fun σ H Q ⟨O, G, e, s, q⟩ => ⟨O, G, e, s, fun vs ds x G1 H1 f1 s1 r1 h1 => ⟨by rw [r1.length]; exact Nat.le_of_lt (small1000 (hΨ _ _ h1).1), fun l hl => by
    obtain ⟨f, r⟩ := new_tup (W := []) f1.s hl r1
    exact q _ _ x _ _ (f1.trans f.wide) (s1.mono f) r (hΨ _ _ h1).2⟩⟩
theorem ef_lst {Ψ : List Dt → F.ι → Prop} (h : EAF F i X δ es Ψ) (hΨ : ∀ ds x, Ψ ds x → ds.length ≤ 1000 ∧ Φ (.lst ds) x) : EF F i X δ (.List es pos) Φ :=
  PE.imp (pe_lst h) fun σ H Q ⟨O, G, e, s, q⟩ => ⟨O, G, e, s, fun vs ds x G1 H1 f1 s1 r1 h1 => ⟨by rw [r1.length]; exact Nat.le_of_lt (small1000 (hΨ _ _ h1).1), fun l hl => by
    obtain ⟨f, r⟩ := new_lst (W := []) f1.s hl r1
    exact q _ _ x _ _ (f1.trans f.wide) (s1.mono f) r (hΨ _ _ h1).2⟩⟩
/-- xs[e] -/
theorem ef_ixL (ha : ED X δ a (.lst ds)) (Ψ : Dt → F.ι → Prop) (hb : EF F i X δ b Ψ) (h : ∀ d x, Ψ d x → ∃ (j : Int) (r : Dt), d = .int j ∧ L2.atI ds j = some r ∧ Φ r x) (hs : PlainIx b := by exact fun _ _ => rfl) : EF F i X δ (.Subscript a b pos) Φ :=
  PE.imp (pe_ix ix_list ha hb hs) fun σ H Q ⟨O, G, e, s, q⟩ => ⟨O, G, e, s, fun v G1 H1 f1 r1 => ⟨O, G1, f1.s, s.mono f1, fun w d x G2 H2 f2 s2 r2 h2 => by
    obtain ⟨j, r, rfl, hj, hΦ⟩ := h d x h2
    cases r2
    cases r1 with
    | lst hx rx =>
    obtain ⟨u, h1, h3⟩ := rx.atI hj
    exact ⟨_, _, _, u, rfl, rfl, .of (f2.s _ _ (f2.g _ _ hx)), h1, q u r x G2 H2 (f1.wide.trans f2) s2 (h3.mono f2.g) hΦ⟩⟩⟩
end
end AL
end
/-! AL15 -/
section
set_option Elab.async false
set_option linter.all false
set_option maxRecDepth 100000
set_option maxHeartbeats 4000000
namespace AL
open PySem L2
/-! ### frames with effects -/
theorem Fr.join {W0 W : List Addr} {G0 H0 G H G1 H1 : Hp} (fr : Fr W0 G0 H0 G H) (f : Fr W G H G1 H1) (may : ∀ a ∈ W, H0 a = none ∨ a ∈ W0) : Fr W0 G0 H0 G1 H1 :=
  ⟨fr.g.trans f.g, f.s, fun b o hb e => f.h b o (fun z => by
    rcases may b z with q | q
    · rw [q] at e
      cases e
    · exact hb q) (fr.h b o hb e), fun b hb gb => f.n b (fr.t b hb) (fr.n b hb gb), fun b hb => f.t b (fr.t b hb)⟩
section
variable {F : Eff} {i : Nat} {K : PySem.W.Frag} {O : Og} {G H G' H' : Hp} {σ : St} {δ : De} {x x' : F.ι} {v : V}
theorem Sl.may (s : Sl K O G H σ δ) (h : δ[i]? = some (some (F.sd x))) : ∀ a ∈ F.W, O.may a := by
  obtain ⟨v, _, h2⟩ := s.at_ i _ h
  exact (F.fp _ _ _ _ _ _ h2).2
/-- the slot's object goes on -/
theorem Sl.step (s : Sl K O G H σ δ) (h : δ[i]? = some (some (F.sd x))) (f : Fr F.W G H G' H') (w : σ[i]? = some (some v)) (ok : SdOk K O G' H' v (F.sd x')) : Sl K O G' H' σ (δ.set i (some (F.sd x'))) := by
  obtain ⟨v', w', h2⟩ := s.at_ i _ h
  rw [w] at w'
  cases w'
  have e1 := (F.fp _ _ _ _ _ _ h2).1
  have e2 := (F.fp _ _ _ _ _ _ ok).1
  rw [← set_self w]
  refine s.put i ok f.g (fun j s' u hj q hu l hl => ?_) fun j s' u hj q hu l hl => ?_
  · have hne : l ∉ F.W := fun z => s.ne j i s' _ u v hj q h hu w l hl (by rw [e1]; exact z)
    obtain ⟨⟨o, ho⟩, n⟩ := s.keep q hu l hl
    exact ⟨fun o2 h3 => f.h l o2 hne h3, f.n l (ne_none ho) n⟩
  · rw [e2, ← e1]
    exact s.ne j i s' _ u v hj q h hu w l hl
end
/-! ### statements with effects -/
section
variable {F : Eff} {i : Nat} {X : Cx} {W : List Addr} {δ : De} {e e1 e2 e3 c : Expr} {es : List Expr} {d : Dt} {rest body : List Stmt} {D : EndsD} {Φ : Dt → F.ι → Prop} {x0 : F.ι} {p p2 p3 p4 p5 pos : Pos}
theorem sds_setF (j : Nat) {x : Str} (he : EF F i X δ e Φ) (hr : ∀ d y, Φ d y → SDs X W ((δ.set i (some (F.sd y))).set j (some (.sh d))) rest D) (hN : X.N.Nodup) (h0 : δ[i]? = some (some (F.sd x0)) := by rfl) (hi : X.N[j]? = some x := by rfl) (hx : L2.Loc X.env.scope x := by first | exact Or.inl rfl | exact Or.inr rfl) (hs : swapsWith e (some (.Name x p)) pos.line X.env = pure false := by rfl)
    (hf : X.fn x = true ∨ X.env.scope.names.lookup x = some .local := by first | exact .inl rfl | exact .inr rfl) : SDs X W δ (.Assign [.Name x p] e pos :: rest) D :=
  sds_cons (M := fun δ' => ∃ d y, Φ d y ∧ δ' = (δ.set i (some (F.sd y))).set j (some (.sh d))) (PS.imp (ps_set hN hi hx he hs hf) fun E σ H ⟨G0, H0, G, fr, sl, q⟩ => ⟨_, G, fr.s, sl, fun v d y G1 H1 f1 s1 r1 h1 =>
    q.nx _ _ _ ⟨G1, f1.g, fr.join f1 (sl.may h0), s1.set j r1⟩ ⟨d, y, h1, rfl⟩⟩) fun δ' ⟨d, y, h1, z⟩ => z ▸ hr d y h1
theorem sds_retF (he : EF F i X δ e Φ) (h : ∀ d y, Φ d y → D.rt d (δ.set i (some (F.sd y)))) (h0 : δ[i]? = some (some (F.sd x0)) := by rfl) : SDs X W δ (.Return (some e) pos :: rest) D :=
  PSs.imp (pss_cons (ps_ret he) (pss_never (sts := rest))) fun E σ H ⟨G0, H0, G, fr, sl, q⟩ => ⟨_, G, fr.s, sl, fun v d y G1 H1 f1 s1 r1 h1 => q.rt v d σ _ G1 H1 f1.g (fr.join f1 (sl.may h0)) s1 r1 (h d y h1)⟩
/-- if c: .., the test changes the slot -/
theorem sds_ifX {a b : List Stmt} {Θ : Bool → F.ι → Prop} (M : De → Prop) (hc : ETF F i X δ c Θ) (ha : ∀ y, Θ true y → SDs X W (δ.set i (some (F.sd y))) a { D with nx := M }) (hb : ∀ y, Θ false y → SDs X W (δ.set i (some (F.sd y))) b { D with nx := M }) (hr : ∀ δ', M δ' → SDs X W δ' rest D) (h0 : δ[i]? = some (some (F.sd x0)) := by rfl) :
    SDs X W δ (.If c a b pos :: rest) D :=
  sds_cons (M := M) (PS.imp (ps_if hc (PSs.ex fun p : { y : F.ι // Θ true y } => ha p.1 p.2) (PSs.ex fun p : { y : F.ι // Θ false y } => hb p.1 p.2)) fun E σ H ⟨G0, H0, G, fr, sl, q⟩ => ⟨_, G, fr.s, sl, fun k y G1 H1 f1 s1 h1 => by
    have fr1 := fr.join f1 (sl.may h0)
    cases k with
    | true => exact iteT ⟨⟨y, h1⟩, G0, H0, G1, fr1, s1, q.up f1.g⟩
    | false => exact iteF ⟨⟨y, h1⟩, G0, H0, G1, fr1, s1, q.up f1.g⟩⟩) hr
/-- a, b = x, y: all data -/
theorem sds_par2F (j k : Nat) {x y : Str} {kt k2 : Nat} {Θ : List Dt → F.ι → Prop} (ha : EAF F i X δ [e1, e2] Θ) (hr : ∀ ds z, Θ ds z → ∃ d1 d2, ds = [d1, d2] ∧ SDs X W (((δ.set i (some (F.sd z))).set j (some (.sh d1))).set k (some (.sh d2))) rest D) (hN : X.N.Nodup) (h0 : δ[i]? = some (some (F.sd x0)) := by rfl)
    (hw : swappedStores [.Tuple [.Name x p, .Name y p2] kt p3] (.Tuple [e1, e2] k2 p4) X.env = pure (some [x, y]) := by rfl) (hj : X.N[j]? = some x := by rfl) (hk : X.N[k]? = some y := by rfl) (hjk : j ≠ k := by decide)
    (hx : X.env.scope.names.lookup x = some .local := by rfl) (hy : X.env.scope.names.lookup y = some .local := by rfl) (hc : X.calm = true := by rfl)
    (hs : swapsWithSole [.Tuple [.Name x p, .Name y p2] kt p3] (.Tuple [e1, e2] k2 p4) pos.line X.env = pure false := by rfl) : SDs X W δ (.Assign [.Tuple [.Name x p, .Name y p2] kt p3] (.Tuple [e1, e2] k2 p4) pos :: rest) D :=
  sds_cons (M := fun δ' => ∃ d1 d2 z, Θ [d1, d2] z ∧ δ' = (((δ.set i (some (F.sd z))).set j (some (.sh d1))).set k (some (.sh d2))) ∧ SDs X W δ' rest D) (PS.imp (ps_par hc hN hj hk hjk hx hy ha hw hs) fun E σ H ⟨G0, H0, G, fr, sl, q⟩ => ⟨_, G, fr.s, sl, fun vs ds z G1 H1 f1 s1 r1 h1 => by
    obtain ⟨d1, d2, rfl, hd⟩ := hr ds z h1
    cases r1 with
    | cons r1 r2 =>
    cases r2 with
    | cons r2 r3 =>
    cases r3
    exact ⟨_, _, rfl, q.nx _ _ _ ⟨G1, f1.g, fr.join f1 (sl.may h0), (s1.set j r1).set k r2⟩ ⟨d1, d2, z, h1, rfl, hd⟩⟩⟩) fun δ' ⟨_, _, _, _, _, h⟩ => h
theorem sds_par3F (j k l : Nat) {x y z : Str} {kt k2 : Nat} {Θ : List Dt → F.ι → Prop} (ha : EAF F i X δ [e1, e2, e3] Θ) (hr : ∀ ds u, Θ ds u → ∃ d1 d2 d3, ds = [d1, d2, d3] ∧ SDs X W ((((δ.set i (some (F.sd u))).set j (some (.sh d1))).set k (some (.sh d2))).set l (some (.sh d3))) rest D) (hN : X.N.Nodup) (h0 : δ[i]? = some (some (F.sd x0)) := by rfl)
    (hw : swappedStores [.Tuple [.Name x p, .Name y p2, .Name z p5] kt p3] (.Tuple [e1, e2, e3] k2 p4) X.env = pure (some [x, y, z]) := by rfl) (hj : X.N[j]? = some x := by rfl) (hk : X.N[k]? = some y := by rfl) (hl : X.N[l]? = some z := by rfl) (hjk : j ≠ k := by decide) (hjl : j ≠ l := by decide) (hkl : k ≠ l := by decide)
    (hx : X.env.scope.names.lookup x = some .local := by rfl) (hy : X.env.scope.names.lookup y = some .local := by rfl) (hz : X.env.scope.names.lookup z = some .local := by rfl) (hc : X.calm = true := by rfl)
    (hs : swapsWithSole [.Tuple [.Name x p, .Name y p2, .Name z p5] kt p3] (.Tuple [e1, e2, e3] k2 p4) pos.line X.env = pure false := by rfl) : SDs X W δ (.Assign [.Tuple [.Name x p, .Name y p2, .Name z p5] kt p3] (.Tuple [e1, e2, e3] k2 p4) pos :: rest) D :=
  sds_cons (M := fun δ' => SDs X W δ' rest D) (PS.imp (ps_par3 hc hN hj hk hl hjk hjl hkl hx hy hz ha hw hs) fun E σ H ⟨G0, H0, G, fr, sl, q⟩ => ⟨_, G, fr.s, sl, fun vs ds u G1 H1 f1 s1 r1 h1 => by
    obtain ⟨d1, d2, d3, rfl, hd⟩ := hr ds u h1
    cases r1 with
    | cons r1 r2 =>
    cases r2 with
    | cons r2 r3 =>
    cases r3 with
    | cons r3 r4 =>
    cases r4
    exact ⟨_, _, _, rfl, q.nx _ _ _ ⟨G1, f1.g, fr.join f1 (sl.may h0), ((s1.set j r1).set k r2).set l r3⟩ hd⟩⟩) fun δ' h => h
end
end AL
end
/-! AL16 -/
section
set_option Elab.async false
set_option linter.all false
set_option maxRecDepth 100000
set_option maxHeartbeats 4000000
namespace AL
open PySem L2
section
variable {F : Eff} {i : Nat} {X : Cx} {W : List Addr} {δ : De} {e e1 e2 e3 c : Expr} {es : List Expr} {d : Dt} {rest body : List Stmt} {D : EndsD} {Φ : Dt → F.ι → Prop} {x0 : F.ι} {p p2 p3 p4 p5 pos apos : Pos}
/-- a, b = e, []: the list is to be filled -/
theorem sds_parFmk (j k : Nat) {x y : Str} {kt k2 : Nat} (ha : EF F i X δ e Φ) (hr : ∀ d z, Φ d z → SDs X W (((δ.set i (some (F.sd z))).set j (some (.sh d))).set k (some (.mu []))) rest D) (hN : X.N.Nodup) (h0 : δ[i]? = some (some (F.sd x0)) := by rfl)
    (hw : swappedStores [.Tuple [.Name x p, .Name y p2] kt p3] (.Tuple [e, .List [] p5] k2 p4) X.env = pure (some [x, y]) := by rfl) (hj : X.N[j]? = some x := by rfl) (hk : X.N[k]? = some y := by rfl) (hjk : j ≠ k := by decide)
    (hx : X.env.scope.names.lookup x = some .local := by rfl) (hy : X.env.scope.names.lookup y = some .local := by rfl) (hc : X.calm = true := by rfl)
    (hs1 : starEach [e, .List [] p5] X.env = (false, eval e X.env) :: starEach [.List [] p5] X.env := by rfl) (hs2 : starEach [.List [] p5] X.env = (false, eval (.List [] p5) X.env) :: starEach [] X.env := by rfl)
    (hs : swapsWithSole [.Tuple [.Name x p, .Name y p2] kt p3] (.Tuple [e, .List [] p5] k2 p4) pos.line X.env = pure false := by rfl) : SDs X W δ (.Assign [.Tuple [.Name x p, .Name y p2] kt p3] (.Tuple [e, .List [] p5] k2 p4) pos :: rest) D :=
  sds_cons (M := fun δ' => SDs X W δ' rest D) (PS.imp (ps_par hc hN hj hk hjk hx hy (pa_cons ha (pa_cons (pe_lst pa_nil) pa_nil hs2) hs1) hw hs) fun E σ H ⟨G0, H0, G, fr, sl, q⟩ => ⟨_, G, fr.s, sl, fun v d z G1 H1 f1 s1 r1 h1 => ⟨Nat.zero_le _, fun l hl => by
    have fr1 := fr.join f1 (sl.may h0)
    have ff := Fr.fresh (W := ([] : List Addr)) (o := .lst []) f1.s hl
    have n0 : H0 l = none := by
      cases q0 : H0 l with
      | none => rfl
      | some o => exact absurd hl (fr1.t l (ne_none q0))
    exact ⟨v, .ref l, rfl, q.nx _ _ _ ⟨G1, f1.g, fr1.trans ff.wide, ((s1.mono ff).set j r1).putN k (s := .mu []) ⟨l, [], rfl, upd_same, .nil, f1.s.free hl, n0⟩ fun j' s' w hj' hw' l' hl' z => (s1.set j r1).there hj' hw' hl' (by
      obtain rfl : l' = l := List.mem_singleton.mp z
      exact hl)⟩ (hr d z h1)⟩⟩⟩) fun δ' h => h
/-- a, b = [], e: the list is to be filled -/
theorem sds_parmkF (j k : Nat) {x y : Str} {kt k2 : Nat} (ha : EF F i X δ e Φ) (hr : ∀ d z, Φ d z → SDs X W (((δ.set i (some (F.sd z))).set j (some (.mu []))).set k (some (.sh d))) rest D) (hN : X.N.Nodup) (h0 : δ[i]? = some (some (F.sd x0)) := by rfl)
    (hw : swappedStores [.Tuple [.Name x p, .Name y p2] kt p3] (.Tuple [.List [] p5, e] k2 p4) X.env = pure (some [x, y]) := by rfl) (hj : X.N[j]? = some x := by rfl) (hk : X.N[k]? = some y := by rfl) (hjk : j ≠ k := by decide)
    (hx : X.env.scope.names.lookup x = some .local := by rfl) (hy : X.env.scope.names.lookup y = some .local := by rfl) (hc : X.calm = true := by rfl)
    (hs1 : starEach [.List [] p5, e] X.env = (false, eval (.List [] p5) X.env) :: starEach [e] X.env := by rfl) (hs2 : starEach [e] X.env = (false, eval e X.env) :: starEach [] X.env := by rfl)
    (hs : swapsWithSole [.Tuple [.Name x p, .Name y p2] kt p3] (.Tuple [.List [] p5, e] k2 p4) pos.line X.env = pure false := by rfl) : SDs X W δ (.Assign [.Tuple [.Name x p, .Name y p2] kt p3] (.Tuple [.List [] p5, e] k2 p4) pos :: rest) D :=
  sds_cons (M := fun δ' => SDs X W δ' rest D) (PS.imp (ps_par hc hN hj hk hjk hx hy (pa_cons (pe_lst pa_nil) (pa_cons ha pa_nil hs2) hs1) hw hs) fun E σ H ⟨G0, H0, G, fr, sl, q⟩ => ⟨Nat.zero_le _, fun l hl => by
    have ff := Fr.fresh (W := ([] : List Addr)) (o := .lst []) fr.s hl
    refine ⟨_, G, ff.s, sl.mono ff, fun v d z G1 H1 f1 s1 r1 h1 => ⟨.ref l, v, rfl, ?_⟩⟩
    obtain ⟨v0, w0, k0⟩ := sl.at_ i _ h0
    have eW := (F.fp _ _ _ _ _ _ k0).1
    have hlW : l ∉ F.W := fun z => by
      obtain ⟨⟨o, ho⟩, _⟩ := k0.foot l (by rw [eW]; exact z)
      rw [hl] at ho
      cases ho
    have n0 : H0 l = none := by
      cases q0 : H0 l with
      | none => rfl
      | some o => exact absurd hl (fr.t l (ne_none q0))
    have h2 : H1 l = some (.lst []) := f1.h l _ hlW upd_same
    have g2 : G1 l = none := f1.n l (by rw [upd_same]; exact fun z => nomatch z) (fr.s.free hl)
    have fr1 := (fr.trans ff.wide).join f1 (sl.may h0)
    refine q.nx _ _ _ ⟨G1, f1.g, fr1, (s1.putN j (s := .mu []) ⟨l, [], rfl, h2, .nil, g2, n0⟩ fun j' s' w hj' hw' l' hl' z => ?_).set k r1⟩ (hr d z h1)
    obtain rfl : l' = l := List.mem_singleton.mp z
    by_cases e1 : j' = i
    · subst e1
      have hil : j' < δ.length := (List.getElem?_eq_some_iff.mp h0).1
      rw [List.getElem?_set_self hil] at hj'
      cases hj'
      obtain ⟨v1, w1, k1⟩ := s1.at_ j' _ (by rw [List.getElem?_set_self hil])
      rw [w1] at hw'
      cases hw'
      rw [(F.fp _ _ _ _ _ _ k1).1] at hl'
      exact hlW hl'
    · rw [List.getElem?_set_ne (fun z => e1 z.symm)] at hj'
      exact sl.there hj' hw' hl' hl⟩) fun δ' h => h
/-- xs.append(e), xs a list of one's own -/
theorem sds_appF (j : Nat) {x : Str} {ds : List Dt} (he : EF F i X δ e Φ) (hz : ds.length ≤ 100000) (hr : ∀ d y, Φ d y → SDs X W ((δ.set i (some (F.sd y))).set j (some (.mu (ds ++ [d])))) rest D) (hij : i ≠ j := by decide) (h0 : δ[i]? = some (some (F.sd x0)) := by rfl) (h : δ[j]? = some (some (.mu ds)) := by rfl) (hN : X.N[j]? = some x := by rfl)
    (hv : Vis X.env.scope x := by first | exact Or.inl rfl | exact Or.inr (Or.inl rfl) | exact Or.inr (Or.inr rfl)) (hdb : (x == ("__debug__" : Str)) = false := by decide) (hcd : (x == ("__classdict__" : Str)) = false := by decide)
    (hbase : attributeBase (.Name x p2) "append" X.env (eval (.Name x p2) X.env) = eval (.Name x p2) X.env := by rfl)
    (hfew : ((backTo pos (starEach [e] X.env)).all (fun x => !x.1) && (backToKw pos (keywordEach [] X.env)).all (fun x => x.1.isSome)
      && decide (([e] : List Expr).length + ([] : List Keyword).length + (if ([] : List Keyword).isEmpty then 0 else 1) < 30)) = true := by rfl)
    (hline : (apos.endLine == pos.line) = true := by rfl) (hst : starEach [e] X.env = (false, eval e X.env) :: starEach [] X.env := by rfl) (hsw : swapsWith (.Call (.Attribute (.Name x p2) "append" apos) [e] [] pos) none p.line X.env = pure false := by rfl) :
    SDs X W δ (.Expr (.Call (.Attribute (.Name x p2) "append" apos) [e] [] pos) p :: rest) D :=
  sds_cons (M := fun δ' => SDs X W δ' rest D) (PS.imp (ps_expr (pe_bm PySem.F.plainAttrs_list PySem.F.slot_list_append PySem.F.type_list_append mt_append (pv j hN hv hdb hcd) (pa_cons he pa_nil hst) hbase hfew hline hst rfl) hsw) fun E σ H ⟨G0, H0, G, fr, sl, q⟩ => by
    obtain ⟨v, h1, l, xs, rfl, h2, h3, h4, h5⟩ := sl.at_ j _ h
    exact ⟨_, h1, .inl ⟨rfl, xs, .of h2⟩, _, G, fr.s, sl, fun w d y G2 H2 f2 s2 r2 hΦ => by
      have fr2 := fr.join f2 (sl.may h0)
      have hj' : (δ.set i (some (F.sd y)))[j]? = some (some (.mu ds)) := by rw [List.getElem?_set_ne hij]; exact h
      obtain ⟨v', h1', l', xs', e', h2', h3', h4', h5'⟩ := s2.at_ j _ hj'
      rw [h1] at h1'
      cases h1'
      cases e'
      exact ⟨l, xs', w, rfl, rfl, h2', by rw [h3'.length]; exact Nat.lt_of_le_of_lt hz (by decide), q.nx _ _ _ (Af.of f2.g (mu_write fr2 s2 hj' h1 h4' h5' (h3'.append (.cons r2 .nil)))) (hr d y hΦ)⟩⟩) fun δ' h => h
end
end AL
end
/-! AL17 -/
section
set_option Elab.async false
set_option linter.all false
set_option maxRecDepth 100000
set_option maxHeartbeats 4000000
namespace AL
open PySem L2
/-! ### loops and comprehensions with effects -/
def tFI (F : Eff) (i : Nat) (K : PySem.W.Frag) (δ : De) (Φ : List Dt → F.ι → Prop) : TI := fun σ H R => ∃ (O : Og) (G : Hp), Same G H ∧ Sl K O G H σ δ ∧ ∀ J ds x G' H', Fr F.W G H G' H' → Sl K O G' H' σ (δ.set i (some (F.sd x))) → WalkD K J ds G' → Φ ds x → R J H'
abbrev IDF (F : Eff) (i : Nat) (X : Cx) (δ : De) (tg e : Expr) (Φ : List Dt → F.ι → Prop) : Prop := PI X tg e (tFI F i X.K δ Φ)
section
variable {F : Eff} {i : Nat} {X : Cx} {W : List Addr} {δ : De} {e c elt iter tg : Expr} {es : List Expr} {d : Dt} {ds : List Dt} {rest body : List Stmt} {D : EndsD} {Φ : Dt → F.ι → Prop} {x0 : F.ι} {p pos : Pos}
/-- range(e), e changes the slot -/
theorem idf_range1 (Ψ : Dt → F.ι → Prop) (he : EF F i X δ e Ψ) {Θ : List Dt → F.ι → Prop} (hn : ∀ d x, Ψ d x → ∃ n : Nat, d = .int (n : Int) ∧ n ≤ 1000000 ∧ Θ (rangeD 0 n) x) (hm : X.mg "range" = none) (hg : Gl X "range" := by rfl) (hs : starEach [e] X.env = (false, eval e X.env) :: starEach [] X.env := by rfl) : IDF F i X δ tg (.Call (.Name "range" p) [e] [] pos) Θ :=
  PI.imp (pi_range1 hg hm (pa_cons he pa_nil hs) (hs := hs)) fun σ H R ⟨O, G, e, s, k⟩ => ⟨O, G, e, s, fun v d x G1 H1 f1 s1 r1 h1 => by
    obtain ⟨n, rfl, hn1, hΘ⟩ := hn d x h1
    cases r1
    refine ⟨_, rfl, by omega, by omega, k _ _ x G1 H1 f1 s1 (fun G2 H2 e1 e2 => ⟨fun i hi => ?_, ?_, fun i x H3 hi y => ?_⟩) hΘ⟩
    · rw [rangeD_len] at hi
      exact hi
    · rw [rangeD_len]
      exact Nat.le_refl _
    · rw [rangeD_len] at hi
      obtain ⟨rfl, rfl⟩ := y
      exact ⟨_, G2, rangeD_get hi, Fr.refl e2, .int _⟩⟩
/-- for, the source changes the slot -/
theorem sd_forF {Θ : List Dt → F.ι → Prop} {vs : List Nat} {δt : De → Dt → De} (Iv : List Dt → Nat → De → Prop) (hi : IDF F i X δ tg iter Θ) (h0 : ∀ ds x, Θ ds x → Iv ds 0 (δ.set i (some (F.sd x))))
    (hg : ∀ ds k d δ', ds[k]? = some d → Iv ds k δ' → GD X vs δ' tg d (δt δ' d)) (hb : ∀ ds k d δ', ds[k]? = some d → Iv ds k δ' → SDs X W (δt δ' d) body { rt := D.rt, nx := Iv ds (k + 1), ct := Iv ds (k + 1), bk := D.nx }) (hd : ∀ ds δ', Iv ds ds.length δ' → D.nx δ') (hx0 : δ[i]? = some (some (F.sd x0)) := by rfl)
    (hp : PassesOwn (model X.prog X.w) X.A X.env X.xe := by exact PassesOwn.never) (hc : X.calm = true := by rfl) (hs : ∀ x, foldedSetIterable iter X.env x = pure x := by intro _; rfl) : SD X W δ (.For tg iter body [] pos) D := by
  refine PS.imp (ps_for hp hc hi
    (g := fun v σ H Q => ∃ p : { p : List Dt × Nat × Dt × De // p.1[p.2.1]? = some p.2.2.1 ∧ Iv p.1 p.2.1 p.2.2.2 }, gD X.K vs p.1.2.2.2 p.1.2.2.1 (δt p.1.2.2.2 p.1.2.2.1) v σ H Q) (PG.ex fun p => hg _ _ _ _ p.2.1 p.2.2)
    (tb := fun E σ H => ∃ p : { p : List Dt × Nat × Dt × De // p.1[p.2.1]? = some p.2.2.1 ∧ Iv p.1 p.2.1 p.2.2.2 }, tS X.K W (δt p.1.2.2.2 p.1.2.2.1) { rt := D.rt, nx := Iv p.1.1 (p.1.2.1 + 1), ct := Iv p.1.1 (p.1.2.1 + 1), bk := D.nx } E σ H) (PSs.ex fun p => hb _ _ _ _ p.2.1 p.2.2) hs) fun E σ H ⟨G0, H0, G, fr, sl, q⟩ => ⟨_, G, fr.s, sl, fun J ds x G1 H1 f1 s1 wk hΘ => ?_⟩
  have w0 : Walk J ds.length (fun H2 => ∃ G2, Same G1 G2 ∧ Same G2 H2) (fun i H2 x H3 => ∀ G2, Same G1 G2 → Same G2 H2 → ∃ d G3, ds[i]? = some d ∧ Fr [] G2 H2 G3 H3 ∧ Rp X.K G3 x d) :=
    ⟨fun i H2 hi ⟨G2, a1, a2⟩ => (wk G2 H2 a1 a2).1 i hi, fun H2 ⟨G2, a1, a2⟩ => (wk G2 H2 a1 a2).2.1, fun i H2 x H3 hi _ y G2 a1 a2 => (wk G2 H2 a1 a2).2.2 i x H3 hi y⟩
  have fr1 := fr.join f1 (sl.may hx0)
  refine for_it (g := fun v σ H Q => ∃ p : { p : List Dt × Nat × Dt × De // p.1[p.2.1]? = some p.2.2.1 ∧ Iv p.1 p.2.1 p.2.2.2 }, gD X.K vs p.1.2.2.2 p.1.2.2.1 (δt p.1.2.2.2 p.1.2.2.1) v σ H Q)
    (tb := fun E σ H => ∃ p : { p : List Dt × Nat × Dt × De // p.1[p.2.1]? = some p.2.2.1 ∧ Iv p.1 p.2.1 p.2.2.2 }, tS X.K W (δt p.1.2.2.2 p.1.2.2.1) { rt := D.rt, nx := Iv p.1.1 (p.1.2.1 + 1), ct := Iv p.1.1 (p.1.2.1 + 1), bk := D.nx } E σ H) (D := E) (σ := σ) (H := H1) w0 (fun k σ' H' => ∃ δ' G', Same G1 G' ∧ Fr W G0 H0 G' H' ∧ Sl X.K ⟨W, H0⟩ G' H' σ' δ' ∧ Iv ds k δ') ⟨_, G1, Same.refl _, fr1, s1, h0 ds x hΘ⟩ ?_ ?_ ?_
  · rintro k σ' H' _ ⟨δ', G', e1, fr', _⟩
    exact ⟨G', e1, fr'.s⟩
  · rintro k v σ' H2 H3 hlt ⟨δ', G', e1, fr', sl', iv⟩ y
    obtain ⟨d, G3, hd', f3, rx⟩ := y G' e1 fr'.s
    obtain ⟨fr3, sl3⟩ := go fr' sl' f3
    have e3 : Same G1 G3 := e1.trans f3.g
    have qu := q.up (f1.g.trans e3)
    refine ⟨⟨(ds, k, d, δ'), hd', iv⟩, ⟨W, H0⟩, G3, f3.s, sl3, rx, fun σ2 s2 _ => ⟨⟨(ds, k, d, δ'), hd', iv⟩, G0, H0, G3, fr3, s2, ?_, ?_, ?_, ?_⟩⟩
    · rintro σ4 δ4 H4 ⟨G4, e4, fr4, sl4⟩ iv4
      exact ⟨δ4, G4, e3.trans e4, fr4, sl4, iv4⟩
    · exact qu.rt
    · exact qu.nx
    · rintro σ4 δ4 H4 ⟨G4, e4, fr4, sl4⟩ iv4
      exact ⟨δ4, G4, e3.trans e4, fr4, sl4, iv4⟩
  · rintro σ' H' ⟨δ', G', e1, fr', sl', iv⟩
    exact q.nx _ _ _ ⟨G', f1.g.trans e1, fr', sl'⟩ (hd ds _ iv)
end
/-- an object of no slot is written -/
theorem Sl.away {K : PySem.W.Frag} {O : Og} {G H : Hp} {σ : St} {δ : De} {D : Addr} {o : HO} (s : Sl K O G H σ δ) (h : ∀ (i : Nat) (s' : Sd) (w : V), δ[i]? = some (some s') → σ[i]? = some (some w) → D ∉ s'.fp w) : Sl K O G (upd H D o) σ δ :=
  ⟨s.len, fun i s' e => by
    obtain ⟨v, w, k⟩ := s.at_ i s' e
    exact ⟨v, w, k.at (Same.refl _) (fun l hl o2 ho => by
      have hne : l ≠ D := fun z => h i s' v e w (z ▸ hl)
      rw [upd_ne hne]
      exact ho) fun l hl => (k.foot l hl).2⟩, s.ne⟩
section
variable {F : Eff} {i : Nat} {X : Cx} {W : List Addr} {δ : De} {e c elt iter tg : Expr} {ds : List Dt} {Φ : Dt → F.ι → Prop} {x0 : F.ι} {p pos : Pos} {scope : Scope} {ifs : List Expr} {x : Str}
/-- the reading of a comprehension whose test or element changes the slot -/
theorem lc_readF {tt : TT} {te : TE} {j : Nat} {σ : St} {H : Hp} {Q : VK} (Iv : Nat → List Dt → F.ι → Prop) (h00 : Iv 0 [] x0) (hx0 : δ[i]? = some (some (F.sd x0))) (hij : i ≠ j) (hδ : δ[j]? = some none) (hz : ds.length ≤ 100000)
    (hst : ∀ k acc y d, ds[k]? = some d → Iv k acc y → ∀ (O : Og) (G : Hp) σ2 H2 (R : Hp → Prop) (T : V → Hp → Prop), Same G H2 → Sl X.K O G H2 σ2 ((δ.set i (some (F.sd y))).set j (some (.sh d))) →
      (∀ y' G' H', Fr F.W G H2 G' H' → Sl X.K O G' H' σ2 (((δ.set i (some (F.sd y))).set j (some (.sh d))).set i (some (F.sd y'))) → Iv (k + 1) acc y' → R H') →
      (∀ v r y' G' H', Fr F.W G H2 G' H' → Sl X.K O G' H' σ2 (((δ.set i (some (F.sd y))).set j (some (.sh d))).set i (some (F.sd y'))) → Rp X.K G' v r → Iv (k + 1) (acc ++ [r]) y' → T v H') →
      tt σ2 H2 fun b H3 => if b = true then te σ2 H3 T else R H3)
    (h : ∃ (O : Og) (G : Hp), Same G H ∧ Sl X.K O G H σ δ ∧ ∀ v acc y G' H', Fr F.W G H G' H' → Sl X.K O G' H' σ (δ.set i (some (F.sd y))) → Rp X.K G' v (.lst acc) → Iv ds.length acc y → Q v H') :
    tLc (wiD X.K δ ds) (fun v σ H R => ∃ p : { p : Nat × Dt × F.ι // ds[p.1]? = some p.2.1 }, gD X.K [j] (δ.set i (some (F.sd p.1.2.2))) p.1.2.1 ((δ.set i (some (F.sd p.1.2.2))).set j (some (.sh p.1.2.1))) v σ H R) tt te [j] σ H Q := by
  obtain ⟨O, G, e, sl, k⟩ := h
  refine ⟨O, G, e, sl, fun J G1 H1 f1 wk D hD => ?_⟩
  have sl1 := sl.mono f1
  obtain ⟨v0, w0, k0⟩ := sl1.at_ i _ hx0
  have eW := (F.fp _ _ _ _ _ _ k0).1
  have hDW : D ∉ F.W := fun z => by
    obtain ⟨⟨o, ho⟩, _⟩ := k0.foot D (by rw [eW]; exact z)
    rw [hD] at ho
    cases ho
  have away : ∀ {G' H' : Hp} {y : F.ι}, Sl X.K O G' H' σ (δ.set i (some (F.sd y))) → ∀ (i' : Nat) (s' : Sd) (w : V), (δ.set i (some (F.sd y)))[i']? = some (some s') → σ[i']? = some (some w) → D ∉ s'.fp w := fun {G' H' y} s i' s' w hs hw hl => by
    by_cases e1 : i' = i
    · subst e1
      have hil : i' < δ.length := (List.getElem?_eq_some_iff.mp hx0).1
      obtain ⟨v1, w1, k1⟩ := s.at_ i' _ hs
      rw [List.getElem?_set_self hil] at hs
      cases hs
      rw [w1] at hw
      cases hw
      rw [(F.fp _ _ _ _ _ _ k1).1] at hl
      exact hDW hl
    · rw [List.getElem?_set_ne (fun z => e1 z.symm)] at hs
      exact sl1.there hs hw hl hD
  have hv : ∀ (y : F.ι), ∀ l ∈ [j], (δ.set i (some (F.sd y)))[l]? = some none := fun y l hl => by
    obtain rfl := List.mem_singleton.mp hl
    rw [List.getElem?_set_ne hij]
    exact hδ
  refine ⟨fun m n H' => n = ds.length - m ∧ m ≤ ds.length ∧ ∃ Gi xs acc y, Fr F.W G1 H1 Gi H' ∧ Gi D = none ∧ H' D = some (.lst xs) ∧ xs.length ≤ m ∧ RpL X.K Gi xs acc ∧ Iv m acc y ∧ Sl X.K O Gi H' σ (δ.set i (some (F.sd y))), ⟨_, rfl, Nat.zero_le _, G1, [], [], x0, Fr.fresh f1.s hD, f1.s.free hD, upd_same, Nat.le_refl _, .nil, h00, ?_⟩, ?_⟩
  · have s0 : Sl X.K O G1 H1 σ (δ.set i (some (F.sd x0))) := by rw [set_self hx0]; exact sl1
    exact s0.away (away s0)
  rintro m n H' ⟨rfl, hm, Gi, xs, acc, y, fr, gD', hH, hxs, ra, iv, sy⟩
  obtain ⟨w1, w2, w3⟩ := wk Gi H' fr.g fr.s
  by_cases hlt : m < ds.length
  · refine .inr ⟨w1 m hlt, fun H'' => ∃ Gi xs acc y, Fr F.W G1 H1 Gi H'' ∧ Gi D = none ∧ H'' D = some (.lst xs) ∧ xs.length ≤ m + 1 ∧ RpL X.K Gi xs acc ∧ Iv (m + 1) acc y ∧ Sl X.K O Gi H'' σ (δ.set i (some (F.sd y))), fun H'' p => ⟨ds.length - (m + 1), by omega, rfl, hlt, p⟩, fun v H2 yy => ?_⟩
    obtain ⟨d, G3, hd, f3, rx⟩ := w3 m v H2 hlt yy
    have fr3 := fr.trans f3.wide
    have g3 : G3 D = none := f3.n _ (ne_none hH) gD'
    have h3 : H2 D = some (.lst xs) := f3.same _ _ hH
    refine ⟨⟨(m, d, y), hd⟩, O, G3, f3.s, (sy.mono f3).wipe (hv y), rx, fun σ2 s2 w' => ⟨w'.trans (wipe_wipe σ _), ?_⟩⟩
    have ww : L2.wipe σ2 [j] = L2.wipe σ [j] := w'.trans (wipe_wipe σ _)
    have back : ∀ {G' H' : Hp} {y' : F.ι}, Sl X.K O G' H' σ2 (((δ.set i (some (F.sd y))).set j (some (.sh d))).set i (some (F.sd y'))) → Sl X.K O G' H' σ (δ.set i (some (F.sd y'))) := fun {G' H' y'} s => by
      have s4 := s.forget j
      have ed : ((((δ.set i (some (F.sd y))).set j (some (.sh d))).set i (some (F.sd y'))).set j none) = δ.set i (some (F.sd y')) := by
        rw [List.set_comm _ _ (fun z => hij z), List.set_set, List.set_comm _ _ hij.symm, List.set_set]
        rw [set_self]
        rw [List.getElem?_set_ne hij]
        exact hδ
      rw [ed] at s4
      exact s4.back ww.symm (hv y')
    refine hst m acc y d hd iv O G3 σ2 H2 _ _ f3.s s2 (fun y' G4 H4 f4 s4 iv4 => ?_) (fun v4 r y' G4 H4 f4 s4 r4 iv4 => ?_)
    · exact ⟨G4, xs, acc, y', fr3.trans f4, f4.n _ (ne_none h3) g3, f4.h _ _ hDW h3, Nat.le_succ_of_le hxs, ra.mono (f3.g.trans f4.g), iv4, back s4⟩
    · refine ⟨xs, f4.h _ _ hDW h3, Nat.lt_of_le_of_lt (show _ ≤ 100000 by omega) (by decide), G4, xs ++ [v4], acc ++ [r], y', (fr3.trans f4).write (.inl hD) (f4.n _ (ne_none h3) g3), f4.n _ (ne_none h3) g3, upd_same, by simp; omega, (ra.mono (f3.g.trans f4.g)).append (.cons r4 .nil), iv4, ?_⟩
      have sb := back s4
      exact sb.away (away sb)
  · have e1 : m = ds.length := by omega
    subst e1
    refine .inl ⟨w2, ?_⟩
    have g4 : Fr F.W G1 H1 (upd Gi D (.lst xs)) H' := fr.freeze hD hH gD'
    have same : Same Gi (upd Gi D (.lst xs)) := fun c o q => by
      rw [upd_ne (ne_of_none q gD')]
      exact q
    refine k _ acc y _ _ (f1.wide.trans g4) ?_ (.lst upd_same (ra.mono same)) iv
    refine ⟨sy.len, fun i' s' es => ?_, sy.ne⟩
    obtain ⟨v1, q1, k1⟩ := sy.at_ i' s' es
    refine ⟨v1, q1, k1.at same (fun l hl o ho => ho) fun l hl => ?_⟩
    have hne : l ≠ D := fun z => away sy i' s' v1 es q1 (z ▸ hl)
    rw [upd_ne hne]
    exact (k1.foot l hl).2
end
end AL
end
/-! AL18 -/
section
set_option Elab.async false
set_option linter.all false
set_option maxRecDepth 100000
set_option maxHeartbeats 4000000
namespace AL
open PySem L2
section
variable {F : Eff} {i : Nat} {X : Cx} {W : List Addr} {δ : De} {e c elt iter : Expr} {ds : List Dt} {x0 : F.ι} {p pos : Pos} {scope : Scope} {x : Str}
/-- [elt for x in iter], elt changes the slot -/
theorem ef_lc (j : Nat) (Iv : Nat → List Dt → F.ι → Prop) (h00 : Iv 0 [] x0) (hi : ID X δ (.Name x p) iter ds) (ok : BlkOk X.N X.env.scope scope [(x, j)]) (hN : X.N.Nodup)
    (he : ∀ (s : Shared) (H : Hp) (C : Addr) (cl : List (Str × Addr)) (fp : List Addr) (k : Nat) (acc : List Dt) (y : F.ι) (d : Dt), ds[k]? = some d → Iv k acc y → EF F i (X.bk scope s H C cl fp) ((δ.set i (some (F.sd y))).set j (some (.sh d))) elt fun r y' => Iv (k + 1) (acc ++ [r]) y')
    (hz : ds.length ≤ 100000) (hx0 : δ[i]? = some (some (F.sd x0)) := by rfl) (hij : i ≠ j := by decide) (hδ : δ[j]? = some none := by rfl) (hi' : X.N[j]? = some x := by rfl)
    (hx : ∀ (s : Shared) (H : Hp) (C : Addr) (cl : List (Str × Addr)) (fp : List Addr), L2.Loc (X.bk scope s H C cl fp).env.scope x := by first | exact fun _ _ _ _ _ => Or.inl rfl | exact fun _ _ _ _ _ => Or.inr rfl)
    (hf : ∀ (s : Shared) (H : Hp) (C : Addr) (cl : List (Str × Addr)) (fp : List Addr), (X.bk scope s H C cl fp).fn x = true ∨ (X.bk scope s H C cl fp).env.scope.names.lookup x = some .local := by first | exact fun _ _ _ _ _ => .inl rfl | exact fun _ _ _ _ _ => .inr rfl)
    (hc : X.calm = true := by rfl) (hs : ∀ y, foldedSetIterable iter X.env y = pure y := by intro _; rfl) : EF F i X δ (.ListComp elt [⟨.Name x p, iter, [], 0⟩] scope pos) fun r y => ∃ acc, r = .lst acc ∧ Iv ds.length acc y :=
  PE.imp (pe_lc (own := [(x, j)]) hc hN hi ok (g := fun v σ H R => ∃ p : { p : Nat × Dt × F.ι // ds[p.1]? = some p.2.1 }, gD X.K [j] (δ.set i (some (F.sd p.1.2.2))) p.1.2.1 ((δ.set i (some (F.sd p.1.2.2))).set j (some (.sh p.1.2.1))) v σ H R)
    (fun s H C cl fp => PG.ex fun p => gd_name j hN (List.mem_cons_self ..) hi' (hx s H C cl fp) (hf s H C cl fp)) (tt := tYes) (fun s H C cl fp => pts_nil)
    (te := fun σ H Q => ∃ p : { p : Nat × List Dt × F.ι × Dt // ds[p.1]? = some p.2.2.2 ∧ Iv p.1 p.2.1 p.2.2.1 }, tF F i X.K ((δ.set i (some (F.sd p.1.2.2.1))).set j (some (.sh p.1.2.2.2))) (fun r y' => Iv (p.1.1 + 1) (p.1.2.1 ++ [r]) y') σ H Q)
    (fun s H C cl fp => PE.ex fun p => he s H C cl fp _ _ _ _ p.2.1 p.2.2) hs) fun σ H Q ⟨O, G, e, sl, k⟩ => by
    refine lc_readF Iv h00 hx0 hij hδ hz (fun m acc y d hd iv O G σ2 H2 R T e2 s2 hR hT => ?_) ⟨O, G, e, sl, fun v acc y G' H' f s' r iv => k v _ y G' H' f s' r ⟨acc, rfl, iv⟩⟩
    show (if true = true then _ else R H2)
    exact iteT ⟨⟨(m, acc, y, d), hd, iv⟩, O, G, e2, s2, fun v r y' G' H' f s' r' h => hT v r y' G' H' f s' r' h⟩
/-- [elt for x in iter if c], c changes the slot -/
theorem ef_lcIf (j : Nat) (Iv : Nat → List Dt → F.ι → Prop) (h00 : Iv 0 [] x0) (hi : ID X δ (.Name x p) iter ds) (ok : BlkOk X.N X.env.scope scope [(x, j)]) (hN : X.N.Nodup) (Fd : Dt → Dt)
    (ht : ∀ (s : Shared) (H : Hp) (C : Addr) (cl : List (Str × Addr)) (fp : List Addr) (k : Nat) (acc : List Dt) (y : F.ι) (d : Dt), ds[k]? = some d → Iv k acc y → ETF F i (X.bk scope s H C cl fp) ((δ.set i (some (F.sd y))).set j (some (.sh d))) c fun b y' => Iv (k + 1) (if b = true then acc ++ [Fd d] else acc) y')
    (he : ∀ (s : Shared) (H : Hp) (C : Addr) (cl : List (Str × Addr)) (fp : List Addr) (y : F.ι) (d : Dt), d ∈ ds → ED (X.bk scope s H C cl fp) (((δ.set i (some (F.sd y))).set j (some (.sh d)))) elt (Fd d))
    (hz : ds.length ≤ 100000) (hx0 : δ[i]? = some (some (F.sd x0)) := by rfl) (hij : i ≠ j := by decide) (hδ : δ[j]? = some none := by rfl) (hi' : X.N[j]? = some x := by rfl)
    (hx : ∀ (s : Shared) (H : Hp) (C : Addr) (cl : List (Str × Addr)) (fp : List Addr), L2.Loc (X.bk scope s H C cl fp).env.scope x := by first | exact fun _ _ _ _ _ => Or.inl rfl | exact fun _ _ _ _ _ => Or.inr rfl)
    (hf : ∀ (s : Shared) (H : Hp) (C : Addr) (cl : List (Str × Addr)) (fp : List Addr), (X.bk scope s H C cl fp).fn x = true ∨ (X.bk scope s H C cl fp).env.scope.names.lookup x = some .local := by first | exact fun _ _ _ _ _ => .inl rfl | exact fun _ _ _ _ _ => .inr rfl)
    (hc : X.calm = true := by rfl) (hs : ∀ y, foldedSetIterable iter X.env y = pure y := by intro _; rfl) : EF F i X δ (.ListComp elt [⟨.Name x p, iter, [c], 0⟩] scope pos) fun r y => ∃ acc, r = .lst acc ∧ Iv ds.length acc y :=
  PE.imp (pe_lc (own := [(x, j)]) hc hN hi ok (g := fun v σ H R => ∃ p : { p : Nat × Dt × F.ι // ds[p.1]? = some p.2.1 }, gD X.K [j] (δ.set i (some (F.sd p.1.2.2))) p.1.2.1 ((δ.set i (some (F.sd p.1.2.2))).set j (some (.sh p.1.2.1))) v σ H R)
    (fun s H C cl fp => PG.ex fun p => gd_name j hN (List.mem_cons_self ..) hi' (hx s H C cl fp) (hf s H C cl fp))
    (tt := fun σ H Q => ∃ p : { p : Nat × List Dt × F.ι × Dt // ds[p.1]? = some p.2.2.2 ∧ Iv p.1 p.2.1 p.2.2.1 }, tFT F i X.K ((δ.set i (some (F.sd p.1.2.2.1))).set j (some (.sh p.1.2.2.2))) (fun b y' => Iv (p.1.1 + 1) (if b = true then p.1.2.1 ++ [Fd p.1.2.2.2] else p.1.2.1) y') σ H Q) (fun s H C cl fp => pts_one (PT.ex fun p => ht s H C cl fp _ _ _ _ p.2.1 p.2.2))
    (te := fun σ H Q => ∃ p : { p : F.ι × Dt // p.2 ∈ ds }, tD X.K ((δ.set i (some (F.sd p.1.1))).set j (some (.sh p.1.2))) (Fd p.1.2) σ H Q)
    (fun s H C cl fp => PE.ex fun p => he s H C cl fp _ _ p.2) hs) fun σ H Q ⟨O, G, e, sl, k⟩ => by
    refine lc_readF Iv h00 hx0 hij hδ hz (fun m acc y d hd iv O G σ2 H2 R T e2 s2 hR hT => ?_) ⟨O, G, e, sl, fun v acc y G' H' f s' r iv => k v _ y G' H' f s' r ⟨acc, rfl, iv⟩⟩
    refine ⟨⟨(m, acc, y, d), hd, iv⟩, O, G, e2, s2, fun b y' G' H' f s' h => ?_⟩
    cases b with
    | false => exact iteF (hR y' G' H' f s' h)
    | true =>
      refine iteT ⟨⟨(y', d), List.mem_of_getElem? hd⟩, O, G', f.s, ?_, fun v G2 H2' f2 r2 => hT v (Fd d) y' G2 H2' (f.trans f2.wide) (s'.mono f2) r2 h⟩
      rw [List.set_comm _ _ hij.symm, List.set_set] at s'
      exact s'
end
end AL
end
/-! AL19 -/
section
set_option Elab.async false
set_option linter.all false
set_option maxRecDepth 100000
set_option maxHeartbeats 4000000
namespace AL
open PySem L2
/-! ### the harbor -/
abbrev hbF (a : Addr) : Eff where
  ι := Nat
  sd := fun n => .hb a n
  W := [a]
  fp := fun K O G H v x h => by
    obtain ⟨rfl, _, _, h3⟩ := h
    exact ⟨rfl, fun b hb => by
      obtain rfl := List.mem_singleton.mp hb
      exact h3⟩
/-- a def whose first argument is the harbor: R tells what it gives for n turns and the other arguments -/
def spH (K : PySem.W.Frag) (R : Nat → List Dt → (Dt → Nat → Prop) → Prop) (m : Nat) : Sp := fun vs H Q _ => ∃ (G : Hp) (a : Addr) (n : Nat) (as : List V) (ds : List Dt) (Φ : Dt → Nat → Prop), vs = .ref a :: as ∧ ds.length + 1 = m ∧ Same G H ∧ HbAt K G H a n ∧ G a = none ∧ RpL K G as ds ∧ R n ds Φ ∧
  ∀ v d n' G' H', Fr [a] G H G' H' → HbAt K G' H' a n' → G' a = none → Rp K G' v d → Φ d n' → Q v H'
structure FnH (P : Program) (w : World) (K : PySem.W.Frag) (mg : Str → Option Value) (base : Heap) (k : Nat) (x : Str) (R : Nat → List Dt → (Dt → Nat → Prop) → Prop) (m : Nat) : Prop where
  ex : ∃ (f : Addr) (fd : FuncData) (ps : List Str), FnOk P w K mg base CX0 k f fd ps (spH K R m) ∧ mg x = some (.ref f) ∧ PySem.W.keepIn K (.ref f) = true ∧ Binds K fd ps []
/-- the harbor, or its list -/
def IsHb (a : Addr) (n : Nat) : Sd → Prop
  | .hb b m => b = a ∧ m ≤ n
  | .hx b ds => b = a ∧ ∃ (cs : List Int) (t r : Int), ds = [.lst (cs.map .int), .int t, .int r] ∧ 0 ≤ t ∧ t ≤ (n : Int) ∧ 0 ≤ r
  | _ => False
section
variable {K : PySem.W.Frag} {O : Og} {G H : Hp} {v : V} {s : Sd} {a : Addr} {n : Nat}
theorem IsHb.ok (h : IsHb a n s) (k : SdOk K O G H v s) : v = .ref a ∧ HbAt K G H a n ∧ G a = none := by
  cases s with
  | hb b m =>
    obtain ⟨rfl, hm⟩ := h
    obtain ⟨rfl, ⟨c, t, r, cs, h1, h2, h3, h4, h5⟩, h6, _⟩ := k
    exact ⟨rfl, ⟨c, t, r, cs, h1, h2, h3, by omega, h5⟩, h6⟩
  | hx b ds =>
    obtain ⟨rfl, cs, t, r, rfl, h3, h4, h5⟩ := h
    obtain ⟨xs, rfl, h1, h2, h6, _⟩ := k
    cases h2 with
    | cons r1 h2 =>
    cases h2 with
    | cons r2 h2 =>
    cases h2 with
    | cons r3 h2 =>
    cases h2
    cases r2
    cases r3
    cases r1 with
    | lst hx rx =>
    obtain rfl := rx.of_ints
    exact ⟨rfl, ⟨_, t, r, cs, h1, hx, h3, h4, h5⟩, h6⟩
  | sh d => exact h.elim
  | mu ds => exact h.elim
  | ob p C ns ds => exact h.elim
  | co d t => exact h.elim
end
abbrev hbD (N : List Str) (a : Addr) (n : Nat) (ds : List Dt) : De := (argsD N (.adr a :: ds)).set 0 (some (.hb a n))
section
variable {P : Program} {w : World} {K : PySem.W.Frag} {mg : Str → Option Value} {base : Heap} {x qual : Str} {params : Arguments} {body : List Stmt} {scope : Scope} {dvs : List V} {f : Addr} {fd : FuncData} {N ps : List Str} {k m : Nat} {R : Nat → List Dt → (Dt → Nat → Prop) → Prop}
theorem start_hb {O : Og} {G H : Hp} {a : Addr} {n : Nat} {as : List V} {ds : List Dt} (e : Same G H) (hb : HbAt K G H a n) (ga : G a = none) (hO : O.may a) (r : RpL K G as ds) : Sl K O G H (start N (.ref a :: as)) (hbD N a n ds) := by
  have s0 := Sl.start (O := O) (H := H) (N := N) (RpL.cons (Rp.adr (K := K) (G := G) a) r)
  have h0 : (start N (.ref a :: as))[0]? = some (some (.ref a)) := by
    unfold L2.start
    simp
  rw [← set_self h0]
  refine s0.putN 0 (s := .hb a n) ⟨rfl, hb, ga, hO⟩ fun i s' w hs hw l hl => ?_
  obtain ⟨d, rfl⟩ := args_sh hs
  rw [fp_sh] at hl
  cases hl
theorem fnOkH_of {kws : List (Str × V)} (F : FunD K x qual params body scope dvs kws f fd) (S : FnScope N ps scope) (hm : ps.length = m)
    (hb : ∀ (cdv : Value) (A : Around) (outer : List Env) (s : Shared) (H : Hp) (E : XK) (a : Addr) (n : Nat) (ds : List Dt) (Φ : Dt → Nat → Prop), Room k (A.deeper (PyProof.Rows.envOfC qual scope s.heap.objs.size f cdv)) → R n ds Φ →
      SDs (cxOf CX0 P w K mg base N qual scope f cdv A outer s H E).nox [a] (hbD N a n ds) body { rt := fun d δ' => ∃ n' s', δ'[0]? = some (some s') ∧ IsHb a n' s' ∧ Φ d n', nx := fun δ' => ∃ n' s', δ'[0]? = some (some s') ∧ IsHb a n' s' ∧ Φ .non n' }) : FnOk P w K mg base CX0 (k + 1) f fd ps (spH K R m) := by
  refine F.ok S (fun vs H Q E ⟨G, a, n, as, ds, Φ, h1, h2, _, _, _, h3, _⟩ => by rw [h1, List.length_cons, h3.length, h2, hm]) fun cdv A outer s H vs Q E hr ⟨G, a, n, as, ds, Φ, h1, h2, e, hh, ga, r, hR, q⟩ => ?_
  subst h1
  refine ⟨_, PSs.nox (hb cdv A outer s H E a n ds Φ hr hR), G, H, G, Fr.refl e, start_hb e hh ga (.inr (List.mem_cons_self ..)) r, ?_, ?_, fun _ _ _ _ z => z.elim, fun _ _ _ _ z => z.elim⟩
  · rintro σ' δ' H' ⟨G', e', fr, sl⟩ ⟨n', s', h1, h2, h3⟩
    obtain ⟨u, g1, g2⟩ := sl.at_ 0 _ h1
    obtain ⟨_, g3, g4⟩ := h2.ok g2
    exact q _ _ _ G' H' fr g3 g4 .non h3
  · rintro v d' σ' δ' G' H' _ fr sl r' ⟨n', s', h1, h2, h3⟩
    obtain ⟨u, g1, g2⟩ := sl.at_ 0 _ h1
    obtain ⟨_, g3, g4⟩ := h2.ok g2
    exact q v d' n' G' H' fr g3 g4 r' h3
end
section
variable {X : Cx} {W : List Addr} {δ : De} {D : EndsD} {e c : Expr} {es : List Expr} {d : Dt} {ds : List Dt} {sts rest : List Stmt} {p p2 p3 hp pos : Pos} {a : Addr} {i n : Nat} {x h : Str} {k j m : Nat} {R : Nat → List Dt → (Dt → Nat → Prop) → Prop} {Φ : Dt → Nat → Prop} {Ψ : List Dt → Nat → Prop}
/-- f(harbor, ..) -/
theorem ef_callH (C : FnH X.prog X.w X.K X.mg X.base k x R m) (hr : Room j X.A) (ha : EAF (hbF a) i X δ es Ψ) (hR : ∀ ds n, Ψ ds n → ds.length + 1 = m ∧ R n ds Φ) (hk : k ≤ j := by decide) (hδ : δ[i]? = some (some (.hb a n)) := by rfl) (hN : X.N[i]? = some h := by rfl) (hg : Gl X x := by rfl)
    (hv : Vis X.env.scope h := by first | exact Or.inl rfl | exact Or.inr (Or.inl rfl) | exact Or.inr (Or.inr rfl)) (hdb : (x == ("__debug__" : Str)) = false := by decide) (hdb2 : (h == ("__debug__" : Str)) = false := by decide) (hcd : (h == ("__classdict__" : Str)) = false := by decide)
    (he : starEach (.Name h hp :: es) X.env = (false, eval (.Name h hp) X.env) :: starEach es X.env := by rfl) (hpl : (backTo pos (starEach es X.env)).any (·.1) = false := by rfl) : EF (hbF a) i X δ (.Call (.Name x p) (.Name h hp :: es) [] pos) Φ := by
  obtain ⟨f, fd, ps, F, hm, kp, b⟩ := C.ex
  refine PE.imp (pe_call F (hr.mono hk) hg hm kp b .nil pass0 (pa_cons (pv i hN hv hdb2 hcd) ha he) hdb he hpl) fun σ H Q ⟨O, G, e, s, q⟩ => ?_
  obtain ⟨v, w, rfl, hb0, g0, may⟩ := s.at_ i _ hδ
  refine ⟨_, w, O, G, e, s, fun vs ds n1 G1 H1 f1 s1 r1 hΨ => ?_⟩
  obtain ⟨hl, hR⟩ := hR ds n1 hΨ
  have hil : i < δ.length := (List.getElem?_eq_some_iff.mp hδ).1
  obtain ⟨v1, w1, k1⟩ := s1.at_ i (.hb a n1) (by rw [List.getElem?_set_self hil])
  rw [w] at w1
  cases w1
  obtain ⟨_, hb1, g1, _⟩ := k1
  refine ⟨G1, a, n1, vs, ds, Φ, by rw [List.append_nil], hl, f1.s, hb1, g1, r1, hR, fun u d n' G2 H2 f2 hb2 g2 r2 hΦ => q u d n' G2 H2 (f1.trans f2) ?_ r2 hΦ⟩
  have s2 := s1.step (F := hbF a) (x := n1) (x' := n') (by rw [List.getElem?_set_self hil]) f2 w ⟨rfl, hb2, g2, may⟩
  rw [List.set_set] at s2
  exact s2
/-- the harbor's name -/
theorem ed_hb (i : Nat) (hδ : δ[i]? = some (some (.hb a n)) := by rfl) (hN : X.N[i]? = some h := by rfl) (hv : Vis X.env.scope h := by first | exact Or.inl rfl | exact Or.inr (Or.inl rfl) | exact Or.inr (Or.inr rfl)) (hdb : (h == ("__debug__" : Str)) = false := by decide) (hcd : (h == ("__classdict__" : Str)) = false := by decide) : ED X δ (.Name h pos) (.adr a) :=
  PE.imp (pv i hN hv hdb hcd) fun σ H Q ⟨O, G, e, s, q⟩ => by
    obtain ⟨v, w, rfl, hb0, g0, may⟩ := s.at_ i _ hδ
    exact ⟨_, w, q _ G H (Fr.refl e) (.adr a)⟩
/-- its items -/
theorem sds_open (i : Nat) (hr : ∀ (cs : List Int) (t r : Int), 0 ≤ t → t ≤ (n : Int) → 0 ≤ r → SDs X W (δ.set i (some (.hx a [.lst (cs.map .int), .int t, .int r]))) sts D) (hδ : δ[i]? = some (some (.hb a n)) := by rfl) : SDs X W δ sts D :=
  PSs.imp (PSs.ex fun p : { p : List Int × Int × Int // 0 ≤ p.2.1 ∧ p.2.1 ≤ (n : Int) ∧ 0 ≤ p.2.2 } => hr p.1.1 p.1.2.1 p.1.2.2 p.2.1 p.2.2.1 p.2.2.2) fun E σ H ⟨G0, H0, G, fr, sl, q⟩ => by
    obtain ⟨v, w, rfl, ⟨c, t, r, cs, h1, h2, h3, h4, h5⟩, g0, may⟩ := sl.at_ i _ hδ
    refine ⟨⟨(cs, t, r), h3, h4, h5⟩, G0, H0, G, fr, ?_, q⟩
    rw [← set_self w]
    exact sl.put i (s := .hx a [.lst (cs.map .int), .int t, .int r]) ⟨_, rfl, h1, .cons (.lst h2 .ints) (.cons (.int t) (.cons (.int r) .nil)), g0, may⟩ (Same.refl _) (fun j s' u hj q hu l hl => ⟨fun o ho => ho, (sl.keep q hu l hl).2⟩) fun j s' u hj q hu l hl => sl.ne j i s' _ u _ hj q hδ hu w l hl
/-- h[j], its items told -/
theorem ed_ixHx (i : Nat) {jj : Int} (hb : ED X δ c (.int jj)) (hd : L2.atI ds jj = some d) (hδ : δ[i]? = some (some (.hx a ds)) := by rfl) (hN : X.N[i]? = some h := by rfl) (hv : Vis X.env.scope h := by first | exact Or.inl rfl | exact Or.inr (Or.inl rfl) | exact Or.inr (Or.inr rfl)) (hdb : (h == ("__debug__" : Str)) = false := by decide)
    (hcd : (h == ("__classdict__" : Str)) = false := by decide) (hs : PlainIx c := by exact fun _ _ => rfl) : ED X δ (.Subscript (.Name h p) c pos) d :=
  PE.imp (pe_ix ix_list (pv i hN hv hdb hcd) hb hs) fun σ H Q ⟨O, G, e, sl, k⟩ => by
    obtain ⟨v, h1, xs, rfl, h2, h3, h4, h5⟩ := sl.at_ i _ hδ
    exact ⟨_, h1, O, G, e, sl, fun w G2 H2 f2 r2 => by
      cases r2
      obtain ⟨u, g1, g2⟩ := h3.atI hd
      exact ⟨_, _, _, u, rfl, rfl, .of (f2.same _ _ h2), g1, k u G2 H2 f2 (g2.mono f2.g)⟩⟩
/-- h[j] = e -/
theorem sds_setHx (i : Nat) {jj : Nat} (he : ED X δ e d) (hb : ED X δ c (.int (jj : Int))) (hr : SDs X W (δ.set i (some (.hx a (ds.set jj d)))) rest D) (hδ : δ[i]? = some (some (.hx a ds)) := by rfl) (hj : jj < ds.length := by exact Nat.le_of_ble_eq_true rfl) (hN : X.N[i]? = some h := by rfl)
    (hv : Vis X.env.scope h := by first | exact Or.inl rfl | exact Or.inr (Or.inl rfl) | exact Or.inr (Or.inr rfl)) (hdb : (h == ("__debug__" : Str)) = false := by decide) (hcd : (h == ("__classdict__" : Str)) = false := by decide)
    (ha : ∀ v, assign (.Subscript (.Name h p) c p2) X.env v = (do
      let ov ← holding [v] (eval (.Name h p) X.env)
      let iv ← holding [v, ov] (eval c X.env)
      standAt p2
      holding [v, ov, iv] (setItem ov iv v)
      release [v, ov, iv] []) := by intro _; rfl)
    (hs : swapsWithSole [.Subscript (.Name h p) c p2] e pos.line X.env = pure false := by rfl) (hw : swappedStores [.Subscript (.Name h p) c p2] e X.env = pure none := by rfl)
    (h1 : (assignEach [.Subscript (.Name h p) c p2] X.env).map (·.2) = [assign (.Subscript (.Name h p) c p2) X.env] := by rfl) : SDs X W δ (.Assign [.Subscript (.Name h p) c p2] e pos :: rest) D :=
  sds_cons (M := fun δ' => δ' = δ.set i (some (.hx a (ds.set jj d)))) (PS.imp (ps_asg he (pg_sub (pv i hN hv hdb hcd) hb set_list ha) hs hw h1) fun E σ H ⟨G0, H0, G, fr, sl, q⟩ => ⟨_, G, fr.s, sl, fun v G1 H1 f1 r1 => by
    obtain ⟨fr1, sl1⟩ := go fr sl f1
    obtain ⟨_, g1, xs, rfl, g2, g3, g4, g5⟩ := sl1.at_ i _ hδ
    exact ⟨_, g1, _, G1, fr1.s, sl1, fun w G2 H2 f2 r2 => by
      obtain ⟨fr2, sl2⟩ := go fr1 sl1 f2
      cases r2
      have g4' : G2 a = none := f2.n _ (ne_none g2) g4
      exact ⟨a, xs, _, jj, rfl, rfl, f2.same _ _ g2, ixN_eq (by rw [g3.length]; exact hj), q.nx _ _ _ (Af.of (f1.g.trans f2.g) (own_write (s' := .hx a (ds.set jj d)) fr2 sl2 hδ (List.mem_cons_self ..) g1 g4' g5 ⟨_, rfl, upd_same, (g3.mono f2.g).set (r1.mono f2.g) jj, g4', g5⟩ fun l z => List.mem_singleton.mp z)) rfl⟩⟩⟩) fun δ' z => z ▸ hr
end
end AL
end
/-! AL22 -/
section
set_option Elab.async false
set_option linter.all false
set_option maxRecDepth 100000
set_option maxHeartbeats 4000000
namespace AL
open PySem PySem.Spec PyProof.Rows L2
section
variable {prog : Program} {w : World} {A : Around} {E : Value → Shared → Prop} {s : Shared}
/-- min(a, b), two things of data that are alike: b if it is less, else a -/
theorem min_two_data {a b : Value} {x y : PyData} {as : List Addr} {Q : Value → Shared → Prop} (hh : A.handled = none) (hr : ReadsAll s.heap [a, b] [x, y] as) (ha : PySem.W.AlikeAll [x, y]) (hu : A.units + 1 + PyData.depthAll [x, y] < cLine)
    (h : ∀ h' tk, (∀ c o, s.heap.get? c = some o → h'.get? c = some o) → Q (if PySem.W.dataLt y x = true then b else a) { s with heap := h', toks := tk }) : wpAny (model prog w) A (call (.builtin "min") [a, b]) Q E s := by
  have hname : (toString "min" ++ toString ".loop" : String) = "min.loop" := by decide
  refine call_function_tree PySem.F.kind_min PySem.F.plain_min PySem.F.entry_min (PySem.F.args_min2 _ _) ?_
  refine wpAny_bind (wpAny_of_eq (show Builtin.Builtins.bindParams "min" ["key", "default"] 0 ⟨[], []⟩ = pure [none, none] from rfl) ?_)
  refine wpAny_bind (wpAny_newObj_type ?_)
  generalize h1 : s.heap.push { cls := .type "tuple", data := .seq #[a, b] } = hp1
  have k1 : ∀ c o, s.heap.get? c = some o → hp1.get? c = some o := fun c o e => by rw [← h1]; exact Heap.get?_push_of_some _ e
  have t1 : hp1.IsTuple s.heap.objs.size #[a, b] := by rw [← h1]; exact ⟨_, Heap.get?_push_size _ rfl, rfl, _, rfl⟩
  have hr1 : ReadsAll hp1 (#[a, b] : Array Value).toList [x, y] as := ReadsAll.keeps k1 hr
  refine wpAny_bind (PySem.W.iter_tupleW (A := A.in1) (s := { s with heap := hp1 }) hh t1 fun s₂ e W st hfp hw hk => ?_)
  refine wpAny_bind (wpAny_newObj_type ?_)
  have hSf : s₂.heap.objs.size ∉ [hp1.objs.size, s.heap.objs.size] := fun hm => Nat.lt_irrefl _ (hfp _ hm)
  rw [hname]
  refine wpAny_pure ⟨plainId_quiet PySem.F.plain_min_loop _, PySem.codeAny_min_loop_firstH W hp1 hw _ (PySem.W.cmpIn_lt (s := { s with heap := hp1 }) (A := A.in1) hr1 ha (by show A.units + 1 + _ < _; exact hu)) s₂.heap.objs.size hSf (PySem.fresh_in hk) _ (show 0 < 2 from Nat.zero_lt_succ 1) (fun b o e => Heap.get?_push_of_some _ (hk b o e)) (W.frame 0 s₂ _ s₂.toks st (Nat.le_refl _) fun b _ o e => Heap.get?_push_of_some _ e) (Heap.get?_push_size _ rfl) fun v s' hP hm => ?_⟩
  have hm2 := Moved.drop_new (tk := s₂.toks) hm (Nat.le_refl _)
  obtain ⟨h', tk, rfl, hk'⟩ := PySem.W.moved_old e rfl hm2
  have hv : v = if PySem.W.dataLt y x = true then b else a := by
    have hP' : (#[a, b] : Array Value)[if PySem.W.dataLt y x = true then 1 else 0]? = some v := hP
    by_cases hb : PySem.W.dataLt y x = true
    · rw [if_pos hb] at hP' ⊢
      exact (Option.some.inj hP').symm
    · rw [if_neg hb] at hP' ⊢
      exact (Option.some.inj hP').symm
  rw [hv]
  exact h h' tk fun c o ec => hk' c o (k1 c o ec)
end
section
variable {X : Cx}
abbrev pairD (c b : Int) : Dt := .tup [.int c, .int b]
theorem pair_alike (a b c d : Int) : PySem.W.AlikeAll [.tuple [.int a, .int b], .tuple [.int c, .int d]] := by
  refine ⟨fun x hx y hy => ?_, fun x hx => ?_⟩
  · simp only [List.mem_cons, List.not_mem_nil, or_false] at hx hy
    rcases hx with rfl | rfl <;> rcases hy with rfl | rfl <;> simp [PySem.W.alike, PySem.W.alikeAll]
  · simp only [List.mem_cons, List.not_mem_nil, or_false] at hx
    rcases hx with rfl | rfl <;> exact fun z => nomatch z
/-- min of two pairs of integers -/
theorem cld_minP {a b c d : Int} (hu : X.A.units + 64 < cLine) (hc : X.calm = true := by rfl) : ClD X (.builtin "min") [pairD a b, pairD c d] (if c < a ∨ (c = a ∧ d < b) then pairD c d else pairD a b) := by
  intro pins s σ H xs us Q I r ⟨G, e, rl, k⟩
  cases rl with
  | cons r1 rl =>
  cases rl with
  | cons r2 rl =>
  cases rl
  obtain ⟨u, v, rfl, q1, q2⟩ := vals2 r
  have p1 : (pairD a b).py = some (.tuple [.int a, .int b]) := rfl
  have p2 : (pairD c d).py = some (.tuple [.int c, .int d]) := rfl
  obtain ⟨as, w1⟩ := Dp.reads I _ _ _ (r1.dp e p1) q1
  obtain ⟨bs, w2⟩ := Dp.reads I _ _ _ (r2.dp e p2) q2
  refine min_two_data (I.ok.hd hc) (.cons w1 (.cons w2 .nil)) (pair_alike a b c d) (by simp [PyData.depthAll, PyData.depth]; omega) fun h' tk kp => ?_
  rw [PySem.W.dataLt_ii]
  by_cases hlt : c < a ∨ (c = a ∧ d < b)
  · rw [if_pos (decide_eq_true hlt)]
    rw [if_pos hlt] at k
    exact ⟨_, H, I.kept kp, q2, k _ G H (Fr.refl e) r2⟩
  · rw [if_neg (by simpa using hlt)]
    rw [if_neg hlt] at k
    exact ⟨_, H, I.kept kp, q1, k _ G H (Fr.refl e) r1⟩
end
end AL
end
/-! AL23 -/
section
set_option Elab.async false
set_option linter.all false
set_option maxRecDepth 100000
set_option maxHeartbeats 4000000
namespace AL
open PySem L2
/-! ### dicts whose keys are pairs of numbers, kept by an object -/
def pk (i j : Nat) : List Key := [.inl (i : Int), .inl (j : Int)]
abbrev pkD (i j : Nat) : Dt := .tup [.int (i : Nat), .int (j : Nat)]
def valT (k : KTs) (y : List Key) : Option Dt := (k.find? fun kv => decide (kv.1 = y)).map (·.2)
def putT (k : KTs) (y : List Key) (d : Dt) : KTs := if (k.any fun kv => decide (kv.1 = y)) = true then k.map (fun kv => if kv.1 = y then (kv.1, d) else kv) else k ++ [(y, d)]
section
variable {K : PySem.W.Frag} {G G' H H' : Hp}
theorem RpT.len : ∀ {a : List (List Key × V)} {b : KTs}, RpT K G a b → a.length = b.length
  | _, _, .nil => rfl
  | _, _, .cons _ _ r => congrArg (· + 1) r.len
theorem RpT.app : ∀ {a c : List (List Key × V)} {b d : KTs}, RpT K G a b → RpT K G c d → RpT K G (a ++ c) (b ++ d)
  | _, _, _, _, .nil, y => y
  | _, _, _, _, .cons k h r, y => .cons k h (r.app y)
theorem RpT.any_ (j : List Key) : ∀ {a : List (List Key × V)} {b : KTs}, RpT K G a b → (a.any fun kv => decide (kv.1 = j)) = (b.any fun kv => decide (kv.1 = j))
  | _, _, .nil => rfl
  | _, _, .cons k h r => by simp only [List.any_cons]; rw [r.any_ j]
theorem RpT.upd_ {j : List Key} {v : V} {d : Dt} (h : Rp K G v d) : ∀ {a : List (List Key × V)} {b : KTs}, RpT K G a b → RpT K G (a.map (fun kv => if kv.1 = j then (kv.1, v) else kv)) (b.map (fun kv => if kv.1 = j then (kv.1, d) else kv))
  | _, _, .nil => .nil
  | _, _, .cons k hh r => by
    simp only [List.map_cons]
    by_cases e : k = j
    · rw [if_pos e, if_pos e]; exact .cons k h (r.upd_ h)
    · rw [if_neg e, if_neg e]; exact .cons k hh (r.upd_ h)
theorem RpT.put_ {j : List Key} {v : V} {d : Dt} (h : Rp K G v d) {a : List (List Key × V)} {b : KTs} (r : RpT K G a b) : RpT K G (putK a j v) (putT b j d) := by
  unfold putK putT
  rw [r.any_ j]
  split
  · exact r.upd_ h
  · exact r.app (.cons j h .nil)
theorem RpT.val_ (j : List Key) : ∀ {a : List (List Key × V)} {b : KTs}, RpT K G a b → (valV a j = none ∧ valT b j = none) ∨ ∃ v d, valV a j = some v ∧ valT b j = some d ∧ Rp K G v d
  | _, _, .nil => .inl ⟨rfl, rfl⟩
  | _, _, .cons k h r => by
    unfold valV valT
    simp only [List.find?_cons]
    by_cases e : k = j
    · simp only [e, decide_true]; exact .inr ⟨_, _, rfl, rfl, h⟩
    · simp only [e, decide_false]; exact r.val_ j
theorem Rp.pk {v : V} {i j : Nat} (r : Rp K G v (pkD i j)) : ∃ b, v = .ref b ∧ G b = some (.tup ((pk i j).map kV)) := by
  cases r with
  | tup hx rx =>
  cases rx with
  | cons r1 rx =>
  cases rx with
  | cons r2 rx =>
  cases rx
  cases r1
  cases r2
  exact ⟨_, rfl, hx⟩
end
theorem putT_len (b : KTs) (j : List Key) (d : Dt) : (putT b j d).length ≤ b.length + 1 := by
  unfold putT
  split <;> simp
theorem valT_cons (p : List Key × Dt) (k : KTs) (z : List Key) : valT (p :: k) z = if p.1 = z then some p.2 else valT k z := by
  unfold valT
  rw [List.find?_cons]
  by_cases e : p.1 = z
  · simp [e]
  · simp [e]
theorem valT_upd (y z : List Key) (d : Dt) : ∀ k : KTs, valT (k.map fun kv => if kv.1 = y then (kv.1, d) else kv) z = (valT k z).map fun x => if z = y then d else x
  | [] => rfl
  | p :: k => by
    rw [List.map_cons, valT_cons, valT_cons, valT_upd y z d k]
    by_cases e : p.1 = y
    · rw [if_pos e]
      by_cases e2 : p.1 = z
      · rw [if_pos e2, if_pos e2, Option.map_some, if_pos (e2.symm.trans e)]
      · rw [if_neg e2, if_neg e2]
    · rw [if_neg e]
      by_cases e2 : p.1 = z
      · rw [if_pos e2, if_pos e2, Option.map_some, if_neg fun q => e (e2.trans q)]
      · rw [if_neg e2, if_neg e2]
theorem valT_any (y : List Key) : ∀ k : KTs, (k.any fun kv => decide (kv.1 = y)) = (valT k y).isSome
  | [] => rfl
  | p :: k => by
    rw [List.any_cons, valT_cons, valT_any y k]
    by_cases e : p.1 = y
    · simp [e]
    · simp [e]
theorem valT_snoc (y z : List Key) (d : Dt) : ∀ k : KTs, valT k y = none → valT (k ++ [(y, d)]) z = if z = y then some d else valT k z
  | [], _ => by
    rw [List.nil_append, valT_cons]
    by_cases e : z = y
    · rw [if_pos e.symm, if_pos e]
    · rw [if_neg fun q => e q.symm, if_neg e]
  | p :: k, h => by
    rw [valT_cons] at h
    by_cases e0 : p.1 = y
    · rw [if_pos e0] at h; cases h
    · rw [if_neg e0] at h
      rw [List.cons_append, valT_cons, valT_cons, valT_snoc y z d k h]
      by_cases e : p.1 = z
      · rw [if_pos e, if_neg fun q => e0 (e.trans q), if_pos e]
      · rw [if_neg e, if_neg e]
theorem valT_put (k : KTs) (y z : List Key) (d : Dt) : valT (putT k y d) z = if z = y then some d else valT k z := by
  unfold putT
  rw [valT_any]
  by_cases h : (valT k y).isSome = true
  · rw [if_pos h, valT_upd]
    by_cases e : z = y
    · subst e
      rw [if_pos rfl]
      obtain ⟨x, hx⟩ := Option.isSome_iff_exists.mp h
      rw [hx, Option.map_some, if_pos rfl]
    · rw [if_neg e]
      cases valT k z with
      | none => rfl
      | some x => rw [Option.map_some, if_neg e]
  · rw [if_neg h]
    exact valT_snoc y z d k (by simpa using h)
/-! ### three of them -/
abbrev K3 := KTs × KTs × KTs
abbrev tri (a b c : Addr) (x : K3) : Tri := ⟨a, b, c, x.1, x.2.1, x.2.2⟩
def ad3 (a b c : Addr) : Nat → Addr
  | 0 => a
  | 1 => b
  | _ => c
def kt3 (x : K3) : Nat → KTs
  | 0 => x.1
  | 1 => x.2.1
  | _ => x.2.2
def up3 (x : K3) (k : KTs) : Nat → K3
  | 0 => (k, x.2.1, x.2.2)
  | 1 => (x.1, k, x.2.2)
  | _ => (x.1, x.2.1, k)
section
variable {K : PySem.W.Frag} {O O2 : Og} {G H G' H' : Hp} {a b c : Addr} {x : K3}
theorem TriOk.og {t : Tri} (h : TriOk K O G H t) (may : ∀ l ∈ [t.a, t.b, t.c], O2.may l) : TriOk K O2 G H t := ⟨h.a, h.b, h.c, h.ab, h.ac, h.bc, fun l hl => ⟨(h.g l hl).1, may l hl⟩⟩
theorem ad3_mem (n : Nat) : ad3 a b c n ∈ [a, b, c] := by
  unfold ad3
  split <;> simp
theorem TriOk.n (h : TriOk K O G H (tri a b c x)) (n : Nat) : DtAt K G H (ad3 a b c n) (kt3 x n) := by
  unfold ad3 kt3
  split
  · exact h.a
  · exact h.b
  · exact h.c
theorem DtAt.keep {q p : Addr} {k : KTs} {o : HO} (h : DtAt K G H q k) (hne : q ≠ p) : DtAt K G (upd H p o) q k := by
  obtain ⟨kvs, h1, h2⟩ := h
  exact ⟨kvs, by rw [upd_ne hne]; exact h1, h2⟩
theorem TriOk.up (h : TriOk K O G H (tri a b c x)) (n : Nat) {kvs : List (List Key × V)} {k : KTs} (r : RpT K G kvs k) : TriOk K O G (upd H (ad3 a b c n) (.dT kvs)) (tri a b c (up3 x k n)) := by
  obtain ⟨ha, hb, hc, ab, ac, bc, g⟩ := h
  unfold ad3 up3
  split
  · exact ⟨⟨kvs, upd_same, r⟩, hb.keep ab.symm, hc.keep ac.symm, ab, ac, bc, g⟩
  · exact ⟨ha.keep ab, ⟨kvs, upd_same, r⟩, hc.keep bc.symm, ab, ac, bc, g⟩
  · exact ⟨ha.keep ac, hb.keep bc, ⟨kvs, upd_same, r⟩, ab, ac, bc, g⟩
end
theorem fp_co (v : V) (d : Dt) (t : Tri) : Sd.fp v (.co d t) = [t.a, t.b, t.c] := by cases v <;> rfl
abbrev coF (d : Dt) (a b c : Addr) : Eff where
  ι := K3
  sd := fun x => .co d (tri a b c x)
  W := [a, b, c]
  fp := fun K O G H v x h => ⟨fp_co .., fun l hl => (h.2.g l hl).2⟩
section
variable {X : Cx} {W : List Addr} {δ : De} {D : EndsD} {e o : Expr} {es : List Expr} {d dv : Dt} {ds : List Dt} {rest : List Stmt} {p p2 pos apos : Pos} {a b c : Addr} {x : K3} {i j : Nat} {h : Str}
/-- the object's name -/
theorem ed_co (n : Nat) {t : Tri} (hδ : δ[n]? = some (some (.co d t)) := by rfl) (hN : X.N[n]? = some h := by rfl) (hv : Vis X.env.scope h := by first | exact Or.inl rfl | exact Or.inr (Or.inl rfl) | exact Or.inr (Or.inr rfl)) (hdb : (h == ("__debug__" : Str)) = false := by decide) (hcd : (h == ("__classdict__" : Str)) = false := by decide) : ED X δ (.Name h pos) d :=
  PE.imp (pv n hN hv hdb hcd) fun σ H Q ⟨O, G, e, s, q⟩ => by
    obtain ⟨v, w, r, _⟩ := s.at_ n _ hδ
    exact ⟨_, w, q _ G H (Fr.refl e) r⟩
/-- (i, j) not in the dict -/
theorem et_tnin (n m : Nat) (hu : X.A.units + 64 < cLine) (hk : ED X δ e (pkD i j)) (ho : ED X δ o (.adr (ad3 a b c m))) (hδ : δ[n]? = some (some (.co d (tri a b c x))) := by rfl) (hm : behindInMarks .NotIn o = false := by first | exact nomark _ | rfl) : ET X δ (.Compare e [.NotIn] [o] pos) (!(valT (kt3 x m) (pk i j)).isSome) :=
  PT.imp (pt_cmp (pc_dnotin (by omega) hk ho) hm) fun σ H Q ⟨O, G, e, s, q⟩ => ⟨O, G, e, s, fun v G1 H1 f1 r1 => ⟨O, G1, f1.s, s.mono f1, fun w G2 H2 f2 r2 => by
    cases r2
    obtain ⟨b0, rfl, hb⟩ := r1.pk
    obtain ⟨u, w1, _, tok⟩ := ((s.mono f1).mono f2).at_ n _ hδ
    obtain ⟨kvs, h1, h2⟩ := tok.n m
    refine ⟨_, _, rfl, DGet.t h1 (f2.s _ _ (f2.g _ _ hb)), ?_⟩
    have e1 : (valV kvs (pk i j)).isSome = (valT (kt3 x m) (pk i j)).isSome := by
      rcases h2.val_ (pk i j) with ⟨y1, y2⟩ | ⟨_, _, y1, y2, _⟩ <;> rw [y1, y2] <;> rfl
    rw [e1]
    exact ⟨_, rfl, q G2 H2 (f1.trans f2)⟩⟩⟩
/-- dict[(i, j)] -/
theorem ed_tget (n m : Nat) (hu : X.A.units + 64 < cLine) (ho : ED X δ o (.adr (ad3 a b c m))) (hk : ED X δ e (pkD i j)) (hv : valT (kt3 x m) (pk i j) = some dv) (hδ : δ[n]? = some (some (.co d (tri a b c x))) := by rfl) (hs : NoSl e := by exact fun _ _ => rfl) : ED X δ (.Subscript o e pos) dv :=
  PE.imp (pe_dget (by omega) ho hk hs) fun σ H Q ⟨O, G, e, s, q⟩ => ⟨O, G, e, s, fun v G1 H1 f1 r1 => ⟨O, G1, f1.s, s.mono f1, fun w G2 H2 f2 r2 => by
    cases r1
    obtain ⟨b0, rfl, hb⟩ := r2.pk
    obtain ⟨u, w1, _, tok⟩ := ((s.mono f1).mono f2).at_ n _ hδ
    obtain ⟨kvs, h1, h2⟩ := tok.n m
    rcases h2.val_ (pk i j) with ⟨_, z⟩ | ⟨v, d', y1, y2, y3⟩
    · rw [hv] at z; cases z
    · rw [hv] at y2
      cases y2
      exact ⟨_, v, rfl, by rw [← y1]; exact DGet.t h1 (f2.s _ _ hb), q v G2 H2 (f1.trans f2) y3⟩⟩⟩
/-- dict[(i, j)] = e -/
theorem sds_tput (n m : Nat) {k e2 : Expr} (hu : X.A.units + 64 < cLine) (he : ED X δ e2 dv) (ho : ED X δ o (.adr (ad3 a b c m))) (hk : ED X δ k (pkD i j)) (hl : (kt3 x m).length ≤ 100000) (hr : SDs X W (δ.set n (some (.co d (tri a b c (up3 x (putT (kt3 x m) (pk i j) dv) m))))) rest D) (hδ : δ[n]? = some (some (.co d (tri a b c x))) := by rfl) (hs : swapsWith e2 (some (.Subscript o k p)) pos.line X.env = pure false := by rfl) :
    SDs X W δ (.Assign [.Subscript o k p] e2 pos :: rest) D :=
  sds_cons (M := fun δ' => δ' = δ.set n (some (.co d (tri a b c (up3 x (putT (kt3 x m) (pk i j) dv) m))))) (PS.imp (ps_dput (by omega) ho hk he hs) fun E σ H ⟨G0, H0, G, fr, sl, q⟩ => ⟨_, G, fr.s, sl, fun v G1 H1 f1 r1 => by
    obtain ⟨fr1, sl1⟩ := go fr sl f1
    exact ⟨_, G1, fr1.s, sl1, fun u G2 H2 f2 r2 => by
      obtain ⟨fr2, sl2⟩ := go fr1 sl1 f2
      exact ⟨_, G2, fr2.s, sl2, fun y G3 H3 f3 r3 => by
        obtain ⟨fr3, sl3⟩ := go fr2 sl2 f3
        cases r2
        obtain ⟨b0, rfl, hb⟩ := r3.pk
        obtain ⟨z, w1, rz, tok⟩ := sl3.at_ n _ hδ
        obtain ⟨kvs, h1, h2⟩ := tok.n m
        have hg := tok.g _ (ad3_mem m)
        refine ⟨_, _, rfl, DPut.t h1 (f3.s _ _ hb) (by rw [h2.len]; exact Nat.lt_of_le_of_lt hl (by decide)), q.nx _ _ _ ⟨G3, (f1.g.trans f2.g).trans f3.g, fr3.write hg.2 hg.1, ?_⟩ rfl⟩
        rw [← set_self w1]
        refine sl3.put n (s := .co d (tri a b c (up3 x (putT (kt3 x m) (pk i j) dv) m))) ⟨rz, tok.up m (h2.put_ (r1.mono (f2.g.trans f3.g)))⟩ (Same.refl _) (fun j' s' w hj hq hw l hl => ?_) fun j' s' w hj hq hw l hl => ?_
        · have hne : l ≠ ad3 a b c m := fun q => sl3.ne j' n s' _ w z hj hq hδ hw w1 l hl (by rw [fp_co, q]; exact ad3_mem m)
          exact ⟨fun o2 ho => by rw [upd_ne hne]; exact ho, (sl3.keep hq hw l hl).2⟩
        · have := sl3.ne j' n s' _ w z hj hq hδ hw w1 l hl
          rw [fp_co] at this ⊢
          exact this⟩⟩⟩) fun δ' z => z ▸ hr
/-- f(..): the slot is changed, what is given is not kept -/
theorem sds_dropF {F : Eff} {Φ : Dt → F.ι → Prop} {x0 : F.ι} {n : Nat} (he : EF F n X δ e Φ) (hr : ∀ d y, Φ d y → SDs X W (δ.set n (some (F.sd y))) rest D) (h0 : δ[n]? = some (some (F.sd x0)) := by rfl) (hs : swapsWith e none pos.line X.env = pure false := by rfl) : SDs X W δ (.Expr e pos :: rest) D :=
  sds_cons (M := fun δ' => ∃ d y, Φ d y ∧ δ' = δ.set n (some (F.sd y))) (PS.imp (ps_expr he hs) fun E σ H ⟨G0, H0, G, fr, sl, q⟩ => ⟨_, G, fr.s, sl, fun v d y G1 H1 f1 s1 r1 h1 =>
    q.nx _ _ _ ⟨G1, f1.g, fr.join f1 (sl.may h0), s1⟩ ⟨d, y, h1, rfl⟩⟩) fun δ' ⟨d, y, h1, z⟩ => z ▸ hr d y h1
end
end AL
end
/-! AL24 -/
section
set_option Elab.async false
set_option linter.all false
set_option maxRecDepth 100000
set_option maxHeartbeats 4000000
namespace AL
open PySem L2
/-! ### an object with three dicts -/
abbrev coD (C : Addr) (ns : List Str) (wd : Dt) (a b c : Addr) : Dt := .ins C ns [wd, .adr a, .adr b, .adr c]
/-- a method that may put into the dicts -/
def spC (K : PySem.W.Frag) (C : Addr) (ns : List Str) (R : Dt → K3 → List Dt → (Dt → K3 → Prop) → Prop) (m : Nat) : Sp := fun vs H Q _ => ∃ (G : Hp) (v : V) (a b c : Addr) (wd : Dt) (x : K3) (as : List V) (ds : List Dt) (Φ : Dt → K3 → Prop), vs = v :: as ∧ ds.length + 1 = m ∧ Same G H ∧ Rp K G v (coD C ns wd a b c) ∧
  TriOk K ⟨[a, b, c], H⟩ G H (tri a b c x) ∧ RpL K G as ds ∧ R wd x ds Φ ∧ ∀ u d x' G' H', Fr [a, b, c] G H G' H' → TriOk K ⟨[a, b, c], H⟩ G' H' (tri a b c x') → Rp K G' u d → Φ d x' → Q u H'
structure MetC (P : Program) (w : World) (K : PySem.W.Frag) (mg : Str → Option Value) (base : Heap) (k : Nat) (C : Addr) (ns : List Str) (x : Str) (R : Dt → K3 → List Dt → (Dt → K3 → Prop) → Prop) (m : Nat) : Prop where
  ex : ∃ (f : Addr) (fd : FuncData) (ps : List Str), FnOk P w K mg base CX0 k f fd ps (spC K C ns R m) ∧ Cls K C ∧ Meth K C x f ∧ Binds K fd ps []
abbrev coDe (N : List Str) (C : Addr) (ns : List Str) (wd : Dt) (a b c : Addr) (x : K3) (ds : List Dt) : De := (argsD N (coD C ns wd a b c :: ds)).set 0 (some (.co (coD C ns wd a b c) (tri a b c x)))
section
variable {P : Program} {w : World} {K : PySem.W.Frag} {mg : Str → Option Value} {base : Heap} {x qual : Str} {params : Arguments} {body : List Stmt} {scope : Scope} {dvs : List V} {f C : Addr} {fd : FuncData} {N ps ns : List Str} {k m : Nat} {R : Dt → K3 → List Dt → (Dt → K3 → Prop) → Prop}
theorem start_co {O : Og} {G H : Hp} {v : V} {d : Dt} {t : Tri} {as : List V} {ds : List Dt} (r0 : Rp K G v d) (ok : TriOk K O G H t) (r : RpL K G as ds) : Sl K O G H (start N (v :: as)) ((argsD N (d :: ds)).set 0 (some (.co d t))) := by
  have s0 := Sl.start (O := O) (H := H) (N := N) (RpL.cons r0 r)
  have h0 : (start N (v :: as))[0]? = some (some v) := by
    unfold L2.start
    simp
  rw [← set_self h0]
  refine s0.putN 0 (s := .co d t) ⟨r0, ok⟩ fun i s' w hs hw l hl => ?_
  obtain ⟨d, rfl⟩ := args_sh hs
  rw [fp_sh] at hl
  cases hl
theorem fnOkC_of {kws : List (Str × V)} (F : FunD K x qual params body scope dvs kws f fd) (S : FnScope N ps scope) (hm : ps.length = m)
    (hb : ∀ (cdv : Value) (A : Around) (outer : List Env) (s : Shared) (H : Hp) (E : XK) (a b c : Addr) (wd : Dt) (y : K3) (ds : List Dt) (Φ : Dt → K3 → Prop), Room k (A.deeper (PyProof.Rows.envOfC qual scope s.heap.objs.size f cdv)) → R wd y ds Φ →
      SDs (cxOf CX0 P w K mg base N qual scope f cdv A outer s H E).nox [a, b, c] (coDe N C ns wd a b c y ds) body { rt := fun d δ' => ∃ y', δ'[0]? = some (some (.co (coD C ns wd a b c) (tri a b c y'))) ∧ Φ d y', nx := fun _ => False }) : FnOk P w K mg base CX0 (k + 1) f fd ps (spC K C ns R m) := by
  refine F.ok S (fun vs H Q E ⟨G, v, a, b, c, wd, y, as, ds, Φ, h1, h2, _, _, _, h3, _⟩ => by rw [h1, List.length_cons, h3.length, h2, hm]) fun cdv A outer s H vs Q E hr ⟨G, v, a, b, c, wd, y, as, ds, Φ, h1, h2, e, hv, ok, r, hR, q⟩ => ?_
  subst h1
  refine ⟨_, PSs.nox (hb cdv A outer s H E a b c wd y ds Φ hr hR), G, H, G, Fr.refl e, start_co hv ok r, ?_, ?_, fun _ _ _ _ z => z.elim, fun _ _ _ _ z => z.elim⟩
  · intro σ' δ' H' _ z
    exact z.elim
  · rintro u d' σ' δ' G' H' _ fr sl r' ⟨y', h1, h3⟩
    obtain ⟨z, g1, _, g2⟩ := sl.at_ 0 _ h1
    exact q u d' y' G' H' fr g2 r' h3
end
section
variable {X : Cx} {δ : De} {e : Expr} {es : List Expr} {x h : Str} {C a b c : Addr} {p hp pos apos : Pos} {i k j m : Nat} {wd : Dt} {ds : List Dt} {ns : List Str} {y : K3} {R : Dt → K3 → List Dt → (Dt → K3 → Prop) → Prop} {Φ : Dt → K3 → Prop}
/-- o.m(e, ..), the dicts may be put into -/
theorem ef_methC {pl : Sem Bool} (M : MetC X.prog X.w X.K X.mg X.base k C ns x R m) (hr : Room j X.A) (ha : EA X δ (e :: es) ds) (hR : R wd y ds Φ) (hk : k ≤ j := by decide) (hl : ds.length + 1 = m := by rfl) (hn : x ∉ ns := by decide) (hδ : δ[i]? = some (some (.co (coD C ns wd a b c) (tri a b c y))) := by rfl)
    (hN : X.N[i]? = some h := by rfl) (hv : Vis X.env.scope h := by first | exact Or.inl rfl | exact Or.inr (Or.inl rfl) | exact Or.inr (Or.inr rfl)) (hdb : (h == ("__debug__" : Str)) = false := by decide) (hcd : (h == ("__classdict__" : Str)) = false := by decide)
    (hst : starEach (e :: es) X.env = (false, eval e X.env) :: starEach es X.env := by rfl) (hpl : (backTo pos (starEach es X.env)).any (·.1) = false := by rfl)
    (ht : eval (.Call (.Attribute (.Name h hp) x apos) (e :: es) [] pos) X.env = (do
      let ov ← eval (.Name h hp) X.env
      standAt apos.atName
      let (f, first) ← holding [ov] (getMethod ov x pl)
      callWith pos f first (backTo pos (starEach (e :: es) X.env)) (backToKw pos (keywordEach [] X.env))) := by rfl) : EF (coF (coD C ns wd a b c) a b c) i X δ (.Call (.Attribute (.Name h hp) x apos) (e :: es) [] pos) Φ := by
  obtain ⟨f, fd, ps, F, cl, me, b0⟩ := M.ex
  exact PE.imp (pe_meth (pl := pl) (pv i hN hv hdb hcd) cl me F (hr.mono hk) b0 .nil pass0 ha hst hpl ht) fun σ H Q ⟨O, G, e, s, q⟩ => by
    obtain ⟨v, w, r1, tok⟩ := s.at_ i _ hδ
    have r1' := r1
    cases r1 with
    | ins hx hns rx =>
    refine ⟨_, w, _, _, _, rfl, e _ _ hx, fget_none (by rw [hns]; exact hn), O, G, e, s, fun vs G2 H2 f2 r2 => ?_⟩
    have s2 := s.mono f2
    obtain ⟨v', w', _, tok2⟩ := s2.at_ i _ hδ
    refine ⟨G2, _, a, b, c, wd, y, vs, ds, Φ, by rw [List.append_nil], hl, f2.s, r1'.mono f2.g, tok2.og fun l hl => .inr hl, r2, hR, fun u d y' G3 H3 f3 tok3 r3 hΦ => q u d y' G3 H3 (f2.wide.trans f3) ?_ r3 hΦ⟩
    exact s2.step (F := coF (coD C ns wd a b c) a b c) (x := y) (x' := y') hδ f3 w ⟨(r1'.mono f2.g).mono f3.g, tok3.og fun l hl => (tok2.g l hl).2⟩
end
end AL
end
/-! AL25 -/
section
set_option Elab.async false
set_option linter.all false
set_option maxRecDepth 100000
set_option maxHeartbeats 4000000
namespace AL
open PySem PySem.Spec PyProof.Rows L2
/-! ### text[::-1] -/
def backS (z : Str) : Str := ⟨z.cps.toList.reverse.toArray⟩
theorem range_back {α : Type} (f : Nat → α) : ∀ n : Nat, (List.range n).map (fun k => f (n - 1 - k)) = ((List.range n).map f).reverse
  | 0 => rfl
  | n + 1 => by
    have ih := range_back f n
    rw [List.range_succ (n := n), List.map_append (l₁ := List.range n) (f := f), List.reverse_append, ← ih, ← List.range_succ, List.range_succ_eq_map, List.map_cons, List.map_map]
    show f (n + 1 - 1 - 0) :: _ = f n :: _
    refine List.cons_eq_cons.mpr ⟨by simp, List.map_congr_left fun k hk => ?_⟩
    have := List.mem_range.mp hk
    show f (n + 1 - 1 - (k + 1)) = f (n - 1 - k)
    congr 1
    omega
theorem slice_back (z : Str) (u : Tok) : ((Builtin.Str.strSliceIndices none none (-1) z.length).filterMap (z.cps[·]?)).toArray = (backS z).cps := by
  rw [picked_rev, filterMap_get, List.map_map]
  · unfold backS
    congr 1
    show (List.range z.length).map (fun k => z.cps.getD (z.length - 1 - k) 0) = _
    rw [range_back (fun i => z.cps.getD i 0)]
    congr 1
    refine List.ext_getElem (by simp [Str.length]) fun i h1 h2 => ?_
    have hi : i < z.cps.size := by simpa [Str.length] using h1
    simp [Array.getD, hi]
  · intro i hi
    obtain ⟨k, hk, rfl⟩ := List.mem_map.mp hi
    have : k < z.length := List.mem_range.mp hk
    show z.length - 1 - k < z.length
    omega
def tRevS (te : TE) : TE := fun σ H Q => te σ H fun x H1 => ∃ z, x = .str z ∧ z.length ≤ sizeLine ∧ Q (.str (backS z)) H1
theorem pe_revS {X : Cx} {e : Expr} {te : TE} {k : Nat} {p1 p2 p3 pos : Pos} (he : PE X e te) : PE X (.Subscript e (.Slice none none (some (.UnaryOp .USub (.Constant (.int 1) k p1) p2)) p3) pos) (tRevS te) := by
  refine ⟨fun pins s σ H Q I h => Subscript_ (thn (he.run pins s σ H _ I h) fun v s1 ⟨x, H1, I1, r1, z, ex, hz, q⟩ => ?_)⟩
  subst ex
  obtain ⟨t, rfl⟩ := r1
  refine wpAny_Slice (thn (po_none.run pins s1 σ H1 (fun o H2 => o = none ∧ H2 = H1) I1 ⟨rfl, rfl⟩) fun vl s2 ⟨l, H2, I2, pl, el, e2⟩ => thn (po_none.run pins s2 σ H2 (fun o H3 => o = none ∧ H3 = H2) I2 ⟨rfl, e2 ▸ rfl⟩) fun vu s3 ⟨u, H3, I3, pu, eu, e3⟩ => ?_)
  subst el e2 eu e3
  have back : PO X (some (.UnaryOp .USub (.Constant (.int 1) k p1) p2)) (tPart (tUn (rU fun i => .int (-i)) (tC (.int 1)))) := po_some (pe_un un_neg pe_int)
  refine thn (back.run pins s3 σ H3 (fun o H4 => o = some (-1) ∧ H4 = H3) I3 ⟨1, rfl, -1, rfl, rfl, rfl⟩) fun vs s4 ⟨o, H4, I4, ps, eo, e4⟩ => ?_
  subst eo e4
  obtain ⟨l, rfl, hl⟩ := IsPart.raw pl
  obtain ⟨u, rfl, hu⟩ := IsPart.raw pu
  obtain ⟨st, rfl, hst⟩ := IsPart.raw ps
  cases l with
  | some l => cases hl
  | none =>
  cases u with
  | some u => cases hu
  | none =>
  obtain ⟨⟨j, tt⟩, rfl, hj⟩ := Option.map_eq_some_iff.mp hst
  obtain rfl : j = -1 := hj
  have I5 : Inv X pins σ H4 { s4 with heap := s4.heap.push { cls := .type "slice", data := .fields #[partValue none, partValue none, partValue (some (-1, tt))] } } := I4.kept (t' := s4.toks) fun b ob q => Heap.get?_push_of_some _ q
  refine tail_any (ops := [.str z t, .ref s4.heap.objs.size]) (typeIs_str _ _ _) (PySem.F.slot_str_getitem.lookup) ?_ (by with_unfolding_all rfl)
  refine wpAny_getItem_str_slice (l := none) (u := none) (st := some (-1, tt)) ⟨_, Heap.get?_push_size _ rfl, rfl, rfl⟩ rfl ?_
  show Made.post (if ((-1 : Int) == 1 && (Builtin.Str.strSliceIndices none none (-1) z.length).length == z.length) = true then Made.val (.str z t) else Made.str ⟨((Builtin.Str.strSliceIndices none none (-1) z.length).filterMap (z.cps[·]?)).toArray⟩) (EP X pins σ Q) _
  rw [if_neg (show ¬ ((-1 : Int) == 1 && (Builtin.Str.strSliceIndices none none (-1) z.length).length == z.length) = true from fun q => nomatch q), slice_back z tt]
  have hb : (backS z).length ≤ sizeLine := by
    have : (backS z).length = z.length := by simp [backS, Str.length]
    rw [this]; exact hz
  exact ⟨hb, .str _, H4, I5.tok _, ⟨_, rfl⟩, q⟩
theorem ed_revS {X : Cx} {δ : De} {a : Expr} {z : Str} {k : Nat} {p1 p2 p3 pos : Pos} (ha : ED X δ a (.str z)) (hz : z.length ≤ sizeLine) : ED X δ (.Subscript a (.Slice none none (some (.UnaryOp .USub (.Constant (.int 1) k p1) p2)) p3) pos) (.str (backS z)) :=
  PE.imp (pe_revS ha) fun σ H Q ⟨O, G, e, s, q⟩ => ⟨O, G, e, s, fun v G1 H1 f1 r1 => by
    cases r1
    exact ⟨z, rfl, hz, q _ _ _ f1 (.str _)⟩⟩
end AL
end
/-! AL26 -/
section
set_option Elab.async false
set_option linter.all false
set_option maxRecDepth 100000
set_option maxHeartbeats 4000000
namespace AL
open PySem L2
/-! ### objects with three dicts, made -/
abbrev tri0 (a b c : Addr) : Tri := tri a b c ([], [], [])
/-- the four attributes are told by their names -/
def spCI (K : PySem.W.Frag) (C : Addr) (ns : List Str) (R : List Dt → Dt → Prop) (m : Nat) : Sp := fun vs H Q _ => ∃ (G : Hp) (p dx : Addr) (as : List V) (ds : List Dt) (wd : Dt), vs = .ref p :: as ∧ ds.length + 1 = m ∧ Same G H ∧ H p = some (.ins C dx []) ∧ G p = none ∧ RpL K G as ds ∧ R ds wd ∧
  ∀ fs dx' a b c G' H', Fr [p] G H G' H' → H' p = some (.ins C dx' fs) → fs.map (·.1) = ns → RpL K G' (fs.map (·.2)) [wd, .adr a, .adr b, .adr c] → G' p = none → TriOk K ⟨[], H⟩ G' H' (tri0 a b c) → Q .non H'
/-- one of them is given an empty dict -/
theorem dict_step {K : PySem.W.Frag} {G H G1 H1 : Hp} {p l C dx : Addr} {fs : List (Str × V)} {f : Str} (hp : H p ≠ none) (fr : Fr [p] G H G1 H1) (h1 : H1 p = some (.ins C dx fs)) (g1 : G1 p = none) (hl : H1 l = none) :
    Fr [p] G H G1 (upd (upd H1 l (.dT [])) p (.ins C dx (putF f (.ref l) fs))) ∧ upd (upd H1 l (.dT [])) p (.ins C dx (putF f (.ref l) fs)) p = some (.ins C dx (putF f (.ref l) fs)) ∧ upd (upd H1 l (.dT [])) p (.ins C dx (putF f (.ref l) fs)) l = some (.dT []) ∧ G1 l = none ∧ H l = none ∧
      l ≠ p ∧ ∀ q o, q ≠ p → H1 q = some o → upd (upd H1 l (.dT [])) p (.ins C dx (putF f (.ref l) fs)) q = some o := by
  have hne : l ≠ p := fun z => by subst z; rw [h1] at hl; cases hl
  have h0 : H l = none := by
    cases z : H l with
    | none => rfl
    | some o => exact absurd hl (fr.t l (ne_none z))
  have f2 : Fr [p] G H G1 (upd H1 l (.dT [])) := fr.trans (Fr.fresh fr.s hl)
  refine ⟨f2.write (.inr (List.mem_cons_self ..)) g1, upd_same, by rw [upd_ne hne]; exact upd_same, fr.s.free hl, h0, hne, fun q o hq ho => ?_⟩
  rw [upd_ne hq, upd_ne (ne_of_none ho hl)]
  exact ho
structure MakC (P : Program) (w : World) (K : PySem.W.Frag) (mg : Str → Option Value) (base : Heap) (k : Nat) (x : Str) (C : Addr) (ns : List Str) (R : List Dt → Dt → Prop) (m : Nat) : Prop where
  ex : ∃ (f : Addr) (fd : FuncData) (ps : List Str), Mk K C f ∧ FnOk P w K mg base CX0 k f fd ps (spCI K C ns R m) ∧ mg x = some (.ref C) ∧ Binds K fd ps []
/-- an expression that gives a new one -/
def tCo (K : PySem.W.Frag) (δ : De) (C : Addr) (ns : List Str) (wd : Dt) : TE := fun σ H Q => ∃ (O : Og) (G : Hp), Same G H ∧ Sl K O G H σ δ ∧ ∀ v a b c G' H', Fr [] G H G' H' → Rp K G' v (coD C ns wd a b c) → TriOk K ⟨[], H⟩ G' H' (tri0 a b c) → Q v H'
theorem TriOk.at_ {K : PySem.W.Frag} {O : Og} {G H G' H' : Hp} {a b c : Addr} {x : K3} (h : TriOk K O G H (tri a b c x)) (f : Fr [] G H G' H') : TriOk K O G' H' (tri a b c x) := by
  have h1 : SdOk K O G H .non (.co .non (tri a b c x)) := ⟨.non, h⟩
  exact (h1.mono f).2
section
variable {X : Cx} {W : List Addr} {δ : De} {D : EndsD} {e e1 e2 : Expr} {es : List Expr} {d wd : Dt} {ds : List Dt} {rest : List Stmt} {p p2 p3 p4 pos : Pos} {C : Addr} {ns : List Str} {x : Str} {j k m : Nat} {R : List Dt → Dt → Prop}
theorem eco_make (M : MakC X.prog X.w X.K X.mg X.base k x C ns R m) (hr : Room j X.A) (ha : EA X δ (e :: es) ds) (hR : R ds wd) (hk : k + 1 ≤ j := by decide) (hl : ds.length + 1 = m := by rfl) (hg : Gl X x := by rfl) (hdb : (x == ("__debug__" : Str)) = false := by decide)
    (he : starEach (e :: es) X.env = (false, eval e X.env) :: starEach es X.env := by rfl) (hpl : (backTo pos (starEach es X.env)).any (·.1) = false := by rfl) : PE X (.Call (.Name x p) (e :: es) [] pos) (tCo X.K δ C ns wd) := by
  obtain ⟨f, fd, ps, M, F, hm, b⟩ := M.ex
  refine PE.imp (pe_make M F (hr.mono hk) hg hm b .nil pass0 ha hdb he hpl) fun σ H Q ⟨O, G, e, s, q⟩ => ⟨O, G, e, s, fun vs G1 H1 f1 r1 => ?_⟩
  intro y dx hy hd hne
  rw [List.append_nil]
  have n0 : ∀ l, H1 l = none → H l = none := fun l hl => by
    cases z : H l with
    | none => rfl
    | some o => exact absurd hl (f1.t l (ne_none z))
  have g1 : Fr [] G1 H1 G1 (upd H1 dx (.own y)) := Fr.fresh f1.s hd
  have hy1 : upd H1 dx (.own y) y = none := by rw [upd_ne (Ne.symm hne)]; exact hy
  have g2 : Fr [] G1 H1 G1 (upd (upd H1 dx (.own y)) y (.ins C dx [])) := g1.trans (Fr.fresh g1.s hy1)
  have gy : G1 y = none := f1.s.free hy
  refine ⟨G1, y, dx, vs, ds, wd, rfl, hl, g2.s, upd_same, gy, r1, hR, fun fs dx' a b c G' H' fr h1 h2 h3 h4 tok => ⟨rfl, ?_⟩⟩
  have f3 : Fr [] G1 H1 G' H' := ⟨fr.g, fr.s, fun b o _ hb => fr.h b o (fun z => by
      obtain rfl : b = y := by simpa using z
      rw [hy] at hb
      cases hb) (g2.same _ _ hb), fun b hb gb => fr.n b (fun z => hb (upd2_none z)) gb, fun b hb => fr.t b fun z => hb (upd2_none z)⟩
  have keep : ∀ l, l ∈ [a, b, c] → l ≠ y := fun l hl z => by
    have := (tok.g l hl).2
    rcases this with z2 | z2
    · subst z
      rw [show (⟨[], upd (upd H1 dx (.own l)) l (.ins C dx [])⟩ : Og).H0 l = some (.ins C dx []) from upd_same] at z2
      cases z2
    · cases z2
  have f4 := f3.freeze hy h1 h4
  refine q (.ref y) a b c (upd G' y (.ins C dx' fs)) H' (f1.trans f4) (.ins upd_same h2 (h3.mono fun c o z => ?_)) ⟨?_, ?_, ?_, tok.ab, tok.ac, tok.bc, fun l hl => ⟨?_, ?_⟩⟩
  · rw [upd_ne (ne_of_none z h4)]; exact z
  · exact tok.a.at (fun b o z => by rw [upd_ne (ne_of_none z h4)]; exact z) fun o z => z
  · exact tok.b.at (fun b o z => by rw [upd_ne (ne_of_none z h4)]; exact z) fun o z => z
  · exact tok.c.at (fun b o z => by rw [upd_ne (ne_of_none z h4)]; exact z) fun o z => z
  · rw [upd_ne (keep l hl)]; exact (tok.g l hl).1
  · rcases (tok.g l hl).2 with z | z
    · exact .inl (n0 l (upd2_none z))
    · cases z
theorem co_may {K : PySem.W.Frag} {W : List Addr} {G0 H0 G H G' H' : Hp} {a b c : Addr} (fr : Fr W G0 H0 G H) (tok : TriOk K ⟨[], H⟩ G' H' (tri0 a b c)) : TriOk K ⟨W, H0⟩ G' H' (tri0 a b c) := tok.og fun l hl => by
  rcases (tok.g l hl).2 with z | z
  · refine .inl ?_
    cases q : H0 l with
    | none => exact q
    | some o => exact absurd z (fr.t l (ne_none q))
  · cases z
theorem co_new {K : PySem.W.Frag} {H G' H' : Hp} {a b c : Addr} (tok : TriOk K ⟨[], H⟩ G' H' (tri0 a b c)) {l : Addr} (hl : l ∈ [a, b, c]) : H l = none := by
  rcases (tok.g l hl).2 with z | z
  · exact z
  · cases z
/-- x = new -/
theorem sds_setCo (i : Nat) {x : Str} (he : PE X e (tCo X.K δ C ns wd)) (hr : ∀ a b c, SDs X W (δ.set i (some (.co (coD C ns wd a b c) (tri0 a b c)))) rest D) (hN : X.N.Nodup) (hi : X.N[i]? = some x := by rfl) (hx : L2.Loc X.env.scope x := by first | exact Or.inl rfl | exact Or.inr rfl) (hs : swapsWith e (some (.Name x p)) pos.line X.env = pure false := by rfl)
    (hf : X.fn x = true ∨ X.env.scope.names.lookup x = some .local := by first | exact .inl rfl | exact .inr rfl) : SDs X W δ (.Assign [.Name x p] e pos :: rest) D :=
  sds_cons (M := fun δ' => ∃ a b c, δ' = δ.set i (some (.co (coD C ns wd a b c) (tri0 a b c)))) (PS.imp (ps_set hN hi hx he hs hf) fun E σ H ⟨G0, H0, G, fr, sl, q⟩ => ⟨_, G, fr.s, sl, fun v a b c G1 H1 f1 r1 tok => by
    obtain ⟨fr1, sl1⟩ := go fr sl f1
    refine q.nx _ _ _ ⟨G1, f1.g, fr1, sl1.putN i (s := .co (coD C ns wd a b c) (tri0 a b c)) ⟨r1, co_may fr tok⟩ fun j s' w hj hw l hl z => ?_⟩ ⟨a, b, c, rfl⟩
    rw [fp_co] at z
    exact sl.there hj hw hl (co_new tok z)⟩) fun δ' ⟨a, b, c, z⟩ => z ▸ hr a b c
/-- x, y = new, e2 -/
theorem sds_par2Co (i j : Nat) {x y : Str} {kt k2 : Nat} {d2 : Dt} (h1 : PE X e1 (tCo X.K δ C ns wd)) (h2 : ED X δ e2 d2) (hr : ∀ a b c, SDs X W ((δ.set i (some (.co (coD C ns wd a b c) (tri0 a b c)))).set j (some (.sh d2))) rest D) (hN : X.N.Nodup)
    (hw : swappedStores [.Tuple [.Name x p, .Name y p2] kt p3] (.Tuple [e1, e2] k2 p4) X.env = pure (some [x, y]) := by rfl) (hi : X.N[i]? = some x := by rfl) (hj : X.N[j]? = some y := by rfl) (hij : i ≠ j := by decide)
    (hx : X.env.scope.names.lookup x = some .local := by rfl) (hy : X.env.scope.names.lookup y = some .local := by rfl) (hc : X.calm = true := by rfl)
    (hs1 : starEach [e1, e2] X.env = (false, eval e1 X.env) :: starEach [e2] X.env := by rfl) (hs2 : starEach [e2] X.env = (false, eval e2 X.env) :: starEach [] X.env := by rfl)
    (hs : swapsWithSole [.Tuple [.Name x p, .Name y p2] kt p3] (.Tuple [e1, e2] k2 p4) pos.line X.env = pure false := by rfl) : SDs X W δ (.Assign [.Tuple [.Name x p, .Name y p2] kt p3] (.Tuple [e1, e2] k2 p4) pos :: rest) D :=
  sds_cons (M := fun δ' => ∃ a b c, δ' = (δ.set i (some (.co (coD C ns wd a b c) (tri0 a b c)))).set j (some (.sh d2))) (PS.imp (ps_par hc hN hi hj hij hx hy (pa_cons h1 (pa_cons h2 pa_nil hs2) hs1) hw hs) fun E σ H ⟨G0, H0, G, fr, sl, q⟩ => ⟨_, G, fr.s, sl, fun v a b c G1 H1 f1 r1 tok => by
    obtain ⟨fr1, sl1⟩ := go fr sl f1
    refine ⟨_, G1, fr1.s, sl1, fun w G2 H2 f2 r2 => ⟨v, w, rfl, ?_⟩⟩
    obtain ⟨fr2, sl2⟩ := go fr1 sl1 f2
    have ok2 := ((co_may fr tok).at_ f2)
    have sa := sl2.putN i (s := .co (coD C ns wd a b c) (tri0 a b c)) ⟨r1.mono f2.g, ok2⟩ fun j s' w hj hw l hl z => by
      rw [fp_co] at z
      exact sl.there hj hw hl (co_new tok z)
    exact q.nx _ _ _ ⟨G2, f1.g.trans f2.g, fr2, sa.set j r2⟩ ⟨a, b, c, rfl⟩⟩) fun δ' ⟨a, b, c, z⟩ => z ▸ hr a b c
end
end AL
end
/-! AL27 -/
section
set_option Elab.async false
set_option linter.all false
set_option maxRecDepth 100000
set_option maxHeartbeats 4000000
namespace AL
open PySem PySem.Spec PyProof.Rows L2
/-! ### super().__init__(..) ahead in a def of an own class -/
theorem super_step {X : Cx} {pins : List (Addr × Obj)} {σ : L2.St} {H : Hp} {s : Shared} {CX : CXT} {k i : Nat} {f g c cc C p dx : Addr} {sp : Sp} {E : XK} {fs : List (Str × V)} {oc ol ocl : Value} {od odl odc : Option Addr} {fd : FuncData} {osl sll slc : Array (Option Value)} {ar : Arg} {vs0 : Array Value} {file : Str} {tf : Tok} {cd : ClassData}
    {body : List Stmt} {e1 : Expr} {es : List Expr} {p0 p1 ap cp ep : Pos} {t : TA} {R : Hp → Prop} (I : Inv X pins σ H s) (hfu : X.env.func = some f) (lk : X.K.lookup f = some ⟨oc, od, .func fd, osl⟩) (har : (fd.params.posonlyargs ++ fd.params.args).head? = some ar)
    (hN : X.N[i]? = some ar.arg) (hka : X.env.scope.names.lookup ar.arg = some .local) (hcode : X.env.code = .ref c) (lc : X.K.lookup c = some ⟨ocl, odl, .fields vs0, sll⟩) (hvs : vs0[2]? = some (.str file tf)) (hfile : ((X.prog.main.file : Str) == file) = true) (htop : (X.prog.main.scope.names.lookup ("super" : Str)).isSome = false)
    (hcl : X.env.cells.lookup ("__class__" : Str) = some cc) (lcc : X.K.lookup cc = some ⟨ol, odc, .cell (some (.ref C)), slc⟩) (hD : PySem.W.clsIn X.K C = some cd) (hsub : PySem.W.mroIn X.K C (.ref C) = some true) (hsm : X.mg ("super" : Str) = none) (hks : X.env.scope.names.lookup ("super" : Str) = some .globalImplicit) (hkc : X.env.scope.names.lookup ("__class__" : Str) = some .free)
    (hkk : ∀ x, X.env.kindOf x = X.env.scope.names.lookup x)
    (hσ : σ[i]? = some (some (.ref p))) (hp : H p = some (.ins C dx fs)) (hm : PySem.W.ks_superIn X.K C C "__init__" = some (some (.ref g))) (hty : PySem.W.typeIn X.K (.ref g) = some (.type "function")) (hany : PySem.W.nsIn X.K PySem.cStatics "thirdparty.any" = some none) (fi : PySem.W.fnIn X.K g = true)
    (F : FnR X.prog X.w X.K X.mg X.base CX k g sp) (hr : Room k X.A) (hx : Passes CX X E) (ha : PA X (e1 :: es) t) (hst : starEach (e1 :: es) X.env = (false, eval e1 X.env) :: starEach es X.env) (hpl : (backTo cp (starEach es X.env)).any (·.1) = false)
    (hi : interactive X.env = false) (hsw : swapsWith (.Call (.Attribute (.Call (.Name "super" p0) [] [] p1) "__init__" ap) (e1 :: es) [] cp) none ep.line X.env = pure false)
    {pl : Sem Bool} (he : eval (.Call (.Attribute (.Call (.Name "super" p0) [] [] p1) "__init__" ap) (e1 :: es) [] cp) X.env = (do
      let ov ← attributeBase (.Call (.Name "super" p0) [] [] p1) "__init__" X.env (eval (.Call (.Name "super" p0) [] [] p1) X.env)
      standAt ap.atName
      let (f, first) ← holding [ov] (getMethod ov "__init__" pl)
      callWith cp f first (backTo cp (starEach (e1 :: es) X.env)) []))
    (q : ∀ b, H b = none → t σ (upd H b (.met g p)) fun vs H1 => H1 b = some (.met g p) ∧ sp (.ref p :: vs) H1 (fun _ H2 => R H2) E) :
    _root_.PySem.wpAt (model X.prog X.w) X.A (.func body X.env) (exec (.Expr (.Call (.Attribute (.Call (.Name "super" p0) [] [] p1) "__init__" ap) (e1 :: es) [] cp) ep) X.env) (fun fl s' => fl = .next ∧ ∃ H', Inv X pins σ H' s' ∧ R H') X.xe s := by
  obtain ⟨hh, gs, dr, tk, os⟩ := s
  refine ks_wpAt_Expr_any (ks_wpAt_MethodCall (pl := pl) ?_ he) hi hsw
  obtain ⟨mA, O, _, _, _, _⟩ := ins_get I.hok hp
  obtain ⟨odx, J, _⟩ := O.look
  obtain ⟨oD, hD1, hD2⟩ : ∃ oD, hh.get? C = some oD ∧ oD.data = .cls cd := by
    unfold PySem.W.clsIn at hD
    split at hD
    · rename_i c d cd' sl ho
      cases hD
      exact ⟨_, I.kIn _ _ ho, rfl⟩
    · cases hD
  have hkf : X.env.scope.kind = .function := I.ok.kind
  obtain ⟨mb, b1, b2⟩ := I.mod.blt
  refine ks_wpAt_super_base (f := f) (cc := c) (by rw [hkk]; exact hks) (by rw [hkk]; exact hkc) (by decide) hfu (I.kIn _ _ lk) rfl har hcode (I.kIn _ _ lc) rfl hvs hfile htop ?_
  refine PySem.W.ks_loadName_global hkf (by rw [hkk]; exact hks) (Calls.loadGlobal_builtin (by rw [I.ok.glob]; exact I.mod.glob.keeps I.bk) hsm (by rw [I.ok.blt]; exact b1.keeps I.bk) ((b2 _ (by decide)).trans (by decide +kernel)) ⟨rfl, ?_⟩)
  refine wpAny_loadName_free hkf (by rw [hkk]; exact hkc) hcl ⟨_, I.kIn _ _ lcc, rfl⟩ ?_
  obtain ⟨m, hn, hl⟩ := I.loc
  obtain ⟨u, r, l⟩ := hl i ar.arg (.ref p) hN hσ (.inl hka)
  obtain rfl : u = Value.ref p := r
  have hme : m ar.arg = some (.ref p) := by
    rcases l with ⟨_, hm⟩ | ⟨hk, _⟩
    · exact hm
    · rcases hk with hk | hk <;> · rw [hkk, hka] at hk; cases hk
  refine wpAny_loadName_local hkf (by rw [hkk]; exact hka) hn hme ?_
  refine ks_wpAny_isType_cls hD1 hD2 ⟨rfl, ?_⟩
  refine ks_wpAny_call_super hD1 hD2 J.at_ J.cls (fun c e => ?_) (PySem.W.looks_mroIn I.kIn hsub) (fun h' e kp => ?_)
  · have := J.no
    unfold PySem.W.notCls at this
    rw [e] at this
    exact Bool.noConfusion this
  have I1 : Inv X pins σ H ⟨h', gs, dr, tk, os⟩ := I.kept (t' := tk) kp
  have K1 : X.K.In h' := I1.kIn
  obtain ⟨og, hog, hogc⟩ : ∃ og, h'.get? g = some og ∧ og.cls = .type "function" := by
    have hty' : (X.K.lookup g).map (·.cls) = some (.type "function") := hty
    cases z : X.K.lookup g with
    | none => rw [z] at hty'; cases hty'
    | some og => rw [z] at hty'; exact ⟨og, K1 _ _ z, Option.some.inj hty'⟩
  have hm' : PySem.W.alongIn X.K "__init__" ((cd.mro.dropWhile (· != .ref C)).drop 1) = some (some (.ref g)) := by
    have := hm
    unfold PySem.W.ks_superIn at this
    rw [hD] at this
    exact this
  refine ks_wpAny_getMethod_super e (PySem.W.looks_opaque K1 hany) (l₀ := cd.mro) (fun A Q E s k q => wpAny_bind ((PySem.W.looks_clsIn K1 hD) A _ E s k (wpAny_pure q))) rfl K1 hm' hog hogc (PySem.W.ks_ne I.kIn J hD) (by decide) ?_
  have hb : H h'.objs.size = none := I1.hok.fresh (Nat.le_refl _)
  have I2 : Inv X pins σ (upd H h'.objs.size (.met g p)) ⟨h'.push (PySem.W.methodObj (.ref g) (.ref p)), gs, dr, tk + 1, os⟩ :=
    I1.laid (t' := tk + 1) (a := h'.objs.size) (o := .met g p) (fun b u z => Heap.get?_push_of_some _ z) (Nat.le_refl _) (show (h'.push (PySem.W.methodObj (.ref g) (.ref p))).get? h'.objs.size = some (PySem.W.methodObj (.ref g) (.ref p)) from Heap.get?_push_size h' rfl)
  have ha' := fun s H Q I h => ha.run cp pins s σ H Q I h
  rw [hst] at ha' ⊢
  refine callwith_met (q := h'.objs.size) (a := p) (by show ((false || (backTo cp (starEach es X.env)).any (·.1)) || false) = false; rw [hpl]; rfl) fi (Calls.evalArgs_plain (thn (ha' _ _ _ I2 (q _ hb)) fun us s3 ⟨vs, H3, I3, r3, h3, hs3⟩ => ⟨met_P I3 h3, ?_⟩))
  refine wpAny_mono (Q := EP X pins σ (fun _ H2 => R H2)) (E := X.xe) (wpAny_call (PySem.W.method_call (met_P I3 h3).1 (run_fnR (us := Value.ref p :: us) (vs := V.ref p :: vs) F hr hx I3 (.cons rfl r3) hs3))) (fun u s4 ⟨v, H4, I4, _, z⟩ => ⟨rfl, H4, I4, z⟩) fun _ _ z => z
end AL
end
/-! AL28 -/
section
set_option Elab.async false
set_option linter.all false
set_option maxRecDepth 100000
set_option maxHeartbeats 4000000
namespace AL
open PySem PySem.Spec PyProof.Rows L2 NdefX
/-- the words and facts of a def of an own class whose first line is super().__init__(e1, ..) -/
structure SupD (K : PySem.W.Frag) (name qual : Str) (params : Arguments) (body : List Stmt) (scope : Scope) (file : Str) (C f g c cc : Addr) (fd : FuncData) : Prop where
  lk : ∃ (oc : Value) (od : Option Addr) (kV doc pm : Value) (an : Option Addr) (ct : Value) (osl : Array (Option Value)), fd = PySem.W.fnX name qual params body scope [("__class__", cc)] .none kV doc pm an (.ref c) ct ∧ K.lookup f = some ⟨oc, od, .func fd, osl⟩
  rec_ : PySem.W.codeIn K (.ref c) qual = true
  code : ∃ (ol : Value) (odl : Option Addr) (vs : Array Value) (sl : Array (Option Value)) (tf : Tok), K.lookup c = some ⟨ol, odl, .fields vs, sl⟩ ∧ vs[2]? = some (.str file tf)
  cell : ∃ (ol : Value) (odl : Option Addr) (sl : Array (Option Value)), K.lookup cc = some ⟨ol, odl, .cell (some (.ref C)), sl⟩
  cls : ∃ cd, PySem.W.clsIn K C = some cd
  sub : PySem.W.mroIn K C (.ref C) = some true
  sup : PySem.W.ks_superIn K C C "__init__" = some (some (.ref g))
  ty : PySem.W.typeIn K (.ref g) = some (.type "function")
  any_ : PySem.W.nsIn K PySem.cStatics "thirdparty.any" = some none
  fi : PySem.W.fnIn K g = true
structure Pf (P : Program) (file : Str) : Prop where
  f : ((P.main.file : Str) == file) = true
  s : (P.main.scope.names.lookup ("super" : Str)).isSome = false
abbrev nfS (name qual : Str) (params : Arguments) (body : List Stmt) (scope : Scope) (c cc : Addr) : NF := ⟨name, qual, params, body, scope, [("__class__", cc)], c⟩
/-- what is seen of the first line in a context -/
structure SupL (X : Cx) (e1 : Expr) (es : List Expr) (p0 p1 ap cp ep : Pos) : Prop where
  st : starEach (e1 :: es) X.env = (false, eval e1 X.env) :: starEach es X.env
  pl : (backTo cp (starEach es X.env)).any (·.1) = false
  int : interactive X.env = false
  sw : swapsWith (.Call (.Attribute (.Call (.Name "super" p0) [] [] p1) "__init__" ap) (e1 :: es) [] cp) none ep.line X.env = pure false
  ev : ∃ pl : Sem Bool, eval (.Call (.Attribute (.Call (.Name "super" p0) [] [] p1) "__init__" ap) (e1 :: es) [] cp) X.env = (do
      let ov ← attributeBase (.Call (.Name "super" p0) [] [] p1) "__init__" X.env (eval (.Call (.Name "super" p0) [] [] p1) X.env)
      standAt ap.atName
      let (f, first) ← holding [ov] (getMethod ov "__init__" pl)
      callWith cp f first (backTo cp (starEach (e1 :: es) X.env)) [])
theorem fn_super {P : Program} {w : World} {K : PySem.W.Frag} {mg : Str → Option Value} {base : Heap} {k kb : Nat} {name qual : Str} {params : Arguments} {body rest : List Stmt} {scope : Scope} {file : Str} {C f g c cc : Addr} {fd : FuncData} {N ps : List Str} {sp spB : Sp} {ar : Arg} {e1 : Expr} {es : List Expr} {p0 p1 ap cp ep : Pos}
    (D : SupD K name qual params body scope file C f g c cc fd) (hP : Pf P file) (S : NScope N ps ["__class__"] scope) (hbody : body = .Expr (.Call (.Attribute (.Call (.Name "super" p0) [] [] p1) "__init__" ap) (e1 :: es) [] cp) ep :: rest) (len : ∀ vs H Q E, sp vs H Q E → vs.length = ps.length)
    (har : (params.posonlyargs ++ params.args).head? = some ar) (hN : N[0]? = some ar.arg) (hka : scope.names.lookup ar.arg = some .local) (hks : scope.names.lookup ("super" : Str) = some .globalImplicit) (hsm : mg ("super" : Str) = none) (hloc : ∀ y ∈ ps, scope.names.lookup y = some .local)
    (F : FnR P w K mg base CX0 kb g spB) (hkb : kb ≤ k)
    (hb : ∀ (A : Around) (outer : List Env) (s : Shared) (H : Hp) (vs : List V) (Q : VK) (E : XK), Room k (A.deeper (envF (nfS name qual params body scope c cc) f s.heap.objs.size)) → sp vs H Q E →
      SupL (ncx CX0 P w K mg base N (nfS name qual params body scope c cc) f A outer s H E) e1 es p0 p1 ap cp ep ∧ ∃ (tA : TA) (t : TS) (p dx : Addr) (fs : List (Str × V)), PA (ncx CX0 P w K mg base N (nfS name qual params body scope c cc) f A outer s H E) (e1 :: es) tA ∧ PSs (ncx CX0 P w K mg base N (nfS name qual params body scope c cc) f A outer s H E) rest t ∧
        (startF N vs [some (.ref C)])[0]? = some (some (.ref p)) ∧ H p = some (.ins C dx fs) ∧ ∀ b, H b = none → tA (startF N vs [some (.ref C)]) (upd H b (.met g p)) fun us H1 => H1 b = some (.met g p) ∧ spB (.ref p :: us) H1 (fun _ H2 => t { nx := fun _ H' => Q .non H', rt := Q } (startF N vs [some (.ref C)]) H2) E0) :
    FnOk P w K mg base CX0 (k + 1) f fd ps sp := by
  obtain ⟨oc, od, kV, doc, pm, an, ct, osl, rfl, lk⟩ := D.lk
  obtain ⟨ol, odl, vs0, sll, tf, lc, hvs⟩ := D.code
  obtain ⟨oll, odc, slc, lcc⟩ := D.cell
  obtain ⟨cd, hcd⟩ := D.cls
  refine ⟨len, fun A outer s H args us vs Q E hr e0 hbd r hsp => ?_⟩
  have hl := len _ _ _ _ hsp
  have KX : K.In s.heap := e0.mod.kin.keeps fun b o e => (e0.bs b o e).1
  have lim : s.heap.NoLimit := e0.mod.nolimit.keeps fun b o e => (e0.bs b o e).1
  have hkc : scope.names.lookup ("__class__" : Str) = some .free := S.frk _ (List.mem_cons_self ..)
  refine ks_codeAny_call_defAt (body := body) (binds := ps.zip us) hr.depth (KX _ _ lk) rfl lim (PySem.W.codeRec_of KX D.rec_) rfl hbd S.nocell (fun x hx => hloc x.1 (List.of_mem_zip hx).1) (fun h₁ hns kp => ?_) S.co S.gen S.kind
  obtain ⟨L, tA, t, p, dx, fs, ha, ht, hσ, hp, q⟩ := hb A outer s H vs Q E (hr.deeper _) hsp
  have Cl : CellsAt [("__class__", cc)] ["__class__"] [some (V.ref C)] s.heap H := by
    have hcell : s.heap.IsCell cc (some (.ref C)) := ⟨_, KX _ _ lcc, rfl⟩
    have hnn : H cc = none := (e0.bs cc _ (e0.mod.kin _ _ lcc)).2
    have look : ∀ y a, List.lookup y [(("__class__" : Str), cc)] = some a → y = "__class__" ∧ a = cc := fun y a z => by
      simp only [List.lookup] at z
      split at z
      · rename_i h0
        exact ⟨beq_iff_eq.mp h0, (Option.some.inj z).symm⟩
      · cases z
    refine ⟨rfl, fun y a z => ?_, fun x y a z1 z2 => (look _ _ z1).1.trans (look _ _ z2).1.symm, fun i y z => ?_⟩
    · obtain ⟨_, rfl⟩ := look _ _ z
      exact ⟨hnn, _, hcell⟩
    · cases i with
      | succ i => cases z
      | zero =>
        cases z
        refine ⟨cc, rfl, fun v z => ?_⟩
        cases z
        exact ⟨.ref C, rfl, hcell⟩
  have I : Inv (ncx CX0 P w K mg base N (nfS name qual params body scope c cc) f A outer s H E) [] (startF N vs [some (.ref C)]) H { s with heap := h₁, toks := s.toks + (ps.zip us).length } := inv_startN S hr.hd e0 hl r Cl hns kp
  obtain ⟨pl, ev⟩ := L.ev
  show _root_.PySem.wpAt (model P w) (A.deeper (envF (nfS name qual params body scope c cc) f s.heap.objs.size)) (.func body (envF (nfS name qual params body scope c cc) f s.heap.objs.size)) (execs body (envF (nfS name qual params body scope c cc) f s.heap.objs.size)) _ _ _
  have fin : ∀ {s' : Shared} {σ' : L2.St} {H' : Hp} {v : V} {u : Value}, Inv (ncx CX0 P w K mg base N (nfS name qual params body scope c cc) f A outer s H E) [] σ' H' s' → L2.RelV v u → Q v H' → CE outer P w H s Q u s' :=
    fun {s' σ' H' v u} J rv q => ⟨v, H', J.os, J.bare, J.base, J.hok, rv, q⟩
  have step := super_step (X := ncx CX0 P w K mg base N (nfS name qual params body scope c cc) f A outer s H E) (body := body) (t := tA) (R := fun H2 => t { nx := fun _ H' => Q .non H', rt := Q } (startF N vs [some (.ref C)]) H2) (E := E0) (CX := CX0) (i := 0) I rfl lk har hN hka rfl lc hvs hP.f hP.s rfl lcc hcd D.sub hsm hks hkc (fun x => rfl) hσ hp D.sup D.ty D.any_ D.fi F ((hr.deeper _).mono hkb) pass0 ha L.st L.pl L.int L.sw ev q
  have key : _root_.PySem.wpAt (model P w) (A.deeper (envF (nfS name qual params body scope c cc) f s.heap.objs.size)) (.func body (envF (nfS name qual params body scope c cc) f s.heap.objs.size)) (execs (.Expr (.Call (.Attribute (.Call (.Name "super" p0) [] [] p1) "__init__" ap) (e1 :: es) [] cp) ep :: rest) (envF (nfS name qual params body scope c cc) f s.heap.objs.size))
      (fun f_1 s' => CR CX0 outer P w H s Q E (.ok (.ret (match f_1 with | .ret v => v | _ => .none))) s') (ncx CX0 P w K mg base N (nfS name qual params body scope c cc) f A outer s H E).xe { s with heap := h₁, toks := s.toks + (ps.zip us).length } := by
    refine ks_wpAt_execs_cons (ks_wpAt_mono step (fun fl s' ⟨e, H', I', hR⟩ => ?_) fun _ _ z => z)
    subst e
    refine wpAt_of_wpAny (wpAny_mono (ht.run [] _ _ H' _ I' hR) (fun fl s'' hs => ?_) fun _ _ z => z)
    cases fl with
    | ret u =>
      obtain ⟨v, σ', H'', J, rv, q⟩ := hs
      exact fin J rv q
    | next =>
      obtain ⟨σ', H'', J, q⟩ := hs
      exact fin (v := V.non) (u := Value.none) J rfl q
    | brk =>
      obtain ⟨_, _, _, q⟩ := hs
      exact False.elim q
    | cont =>
      obtain ⟨_, _, _, q⟩ := hs
      exact False.elim q
  rw [← hbody] at key
  exact key
end AL
end
/-! AZ2 -/
section
set_option Elab.async false
set_option linter.all false
set_option maxRecDepth 100000
set_option maxHeartbeats 4000000
namespace AZ
open PySem PySem.Spec PyProof.Rows L2 AL NdefX
abbrev s_Paper__init : Stmt := inClass (top 57) 0
abbrev N_Paper__init : List Str := ["self", "word", "parts"]
theorem S_Paper__init : FnScope N_Paper__init ((["self", "word"] : List Str) ++ [("parts" : Str)]) (defScope s_Paper__init) := ⟨rfl, rfl, rfl, by decide +kernel, rfl, by decide +kernel, by decide +kernel⟩
def D_Paper__init : He.DefD := ⟨("Paper", some "__init__"), "__init__", "Paper.__init__", defArgs s_Paper__init, defBody s_Paper__init, defScope s_Paper__init, [], []⟩
abbrev s_Copies__init : Stmt := inClass (top 80) 0
abbrev N_Copies__init : List Str := ["self", "numbers", "__class__"]
abbrev P_Copies__init : List Str := ["self", "numbers"]
theorem S_Copies__init : NScope N_Copies__init P_Copies__init ["__class__"] (defScope s_Copies__init) := nscope_by (by decide +kernel)
abbrev s_Lets__init : Stmt := inClass (top 91) 0
abbrev N_Lets__init : List Str := ["self", "__class__"]
abbrev P_Lets__init : List Str := ["self"]
theorem S_Lets__init : NScope N_Lets__init P_Lets__init ["__class__"] (defScope s_Lets__init) := nscope_by (by decide +kernel)
abbrev s_Stands__init : Stmt := inClass (top 82) 0
abbrev N_Stands__init : List Str := ["self", "__class__"]
abbrev P_Stands__init : List Str := ["self"]
theorem S_Stands__init : NScope N_Stands__init P_Stands__init ["__class__"] (defScope s_Stands__init) := nscope_by (by decide +kernel)
abbrev s_Parts__init : Stmt := inClass (top 83) 0
abbrev N_Parts__init : List Str := ["self", "row", "start", "edits", "__class__"]
abbrev P_Parts__init : List Str := ["self", "row", "start", "edits"]
theorem S_Parts__init : NScope N_Parts__init P_Parts__init ["__class__"] (defScope s_Parts__init) := nscope_by (by decide +kernel)
def fnL2 : List He.DefD := [D_Paper__init]
def faL2 : List He.Fa := [.free "super", .mkr "Copies", .mkr "Lets", .mkr "Stands", .mkr "Parts"]
abbrev fileS : Str := PySem.Challenge.pw_anyletter_k58_whole_any_deed_by_flags.main.file
abbrev SupC (K : PySem.W.Frag) (C qual : Str) (st : Stmt) : Prop := ∃ (c cc : Addr) (fd : FuncData), SupD K "__init__" qual (defArgs st) (defBody st) (defScope st) fileS (He.ga K C) (He.ma K (He.ga K C) "__init__") (He.fAd K ("Paper", some "__init__")) c cc fd
/-- more facts of one's own -/
structure Zd (K : PySem.W.Frag) (mg : Str → Option Value) : Prop where
  z : Zc K mg
  s : He.SaysD faL2 fnL2 K
  sCopies : SupC K "Copies" "Copies.__init__" s_Copies__init
  sLets : SupC K "Lets" "Lets.__init__" s_Lets__init
  sStands : SupC K "Stands" "Stands.__init__" s_Stands__init
  sParts : SupC K "Parts" "Parts.__init__" s_Parts__init
section
variable {K : PySem.W.Frag} {mg : Str → Option Value}
theorem Zd.f_super (Z : Zd K mg) : mg ("super" : Str) = none := let ⟨_, X, G⟩ := Z.z.c; He.free_ok X G (Z.s.fact 0 (by rfl))
theorem Zd.mk_Copies (Z : Zd K mg) : Mk K (He.ga K "Copies") (He.ma K (He.ga K "Copies") "__init__") := He.mkr_ok (Z.s.fact 1 (by rfl))
theorem Zd.mk_Lets (Z : Zd K mg) : Mk K (He.ga K "Lets") (He.ma K (He.ga K "Lets") "__init__") := He.mkr_ok (Z.s.fact 2 (by rfl))
theorem Zd.mk_Stands (Z : Zd K mg) : Mk K (He.ga K "Stands") (He.ma K (He.ga K "Stands") "__init__") := He.mkr_ok (Z.s.fact 3 (by rfl))
theorem Zd.mk_Parts (Z : Zd K mg) : Mk K (He.ga K "Parts") (He.ma K (He.ga K "Parts") "__init__") := He.mkr_ok (Z.s.fact 4 (by rfl))
theorem Zd.d_Paper__init (Z : Zd K mg) : ∃ fd, FunD K D_Paper__init.name D_Paper__init.qual (defArgs s_Paper__init) (defBody s_Paper__init) (defScope s_Paper__init) (D_Paper__init.dvs K) (D_Paper__init.kws K) (He.fAd K D_Paper__init.at_) fd := Z.s.def_ 0 (by rfl)
end
end AZ
end
/-! AL29 -/
section
set_option Elab.async false
set_option linter.all false
set_option maxRecDepth 100000
set_option maxHeartbeats 4000000
namespace AL
open PySem L2
/-- o.f as a target -/
def gFld (K : PySem.W.Frag) (to : TE) (f : Str) : TG := fun v σ H Q => to σ H fun x H1 => ∃ a C dx fs, x = .ref a ∧ H1 a = some (.ins C dx fs) ∧ Cls K C ∧ NoAttr K C f ∧ fs.length < 1000 ∧ Q σ (upd H1 a (.ins C dx (putF f v fs)))
theorem pg_fld {X : Cx} {o : Expr} {f : Str} {to : TE} {pos : Pos} (ho : PE X o to)
    (ha : ∀ v, assign (.Attribute o f pos) X.env v = (do
      let ov ← holding [v] (eval o X.env)
      standAt pos.atName
      holding [v, ov] (setAttr ov f v)
      release [v, ov] []) := by intro _; rfl) : PG X (.Attribute o f pos) (gFld X.K to f) := by
  refine ⟨fun pins s σ H v u Q I r h => ?_⟩
  rw [ha]
  refine wpAny_bind (wpAny_holding (thn (ho.run pins s σ H _ I h) fun ov s1 ⟨x, H1, I1, r1, a, C, dx, fs, ex, ea, c, n, l, q1⟩ => ?_))
  subst ex
  obtain rfl : ov = Value.ref a := r1
  refine wpAny_bind (wpAny_standAt ?_)
  refine wpAny_bind (wpAny_holding (setattr_ok I1 ea c n l r fun s3 I3 => ?_))
  exact wpAny_release ⟨σ, _, I3, q1⟩
section
variable {X : Cx} {W : List Addr} {δ : De} {D : EndsD} {e : Expr} {d1 d2 d3 : Dt} {rest : List Stmt} {p p1 p2 p3 q1 q2 q3 pos : Pos} {ns : List Str} {ds : List Dt} {C q : Addr}
theorem fld_step {K : PySem.W.Frag} {G0 H0 G H : Hp} {σ : St} {i : Nat} {f : Str} {v : V} {d : Dt} (fr : Fr W G0 H0 G H) (sl : Sl K ⟨W, H0⟩ G H σ δ) (h : δ[i]? = some (some (.ob q C ns ds))) (r : Rp K G v d) : ∃ dx fs, σ[i]? = some (some (.ref q)) ∧ H q = some (.ins C dx fs) ∧ fs.length = ns.length ∧
    Fr W G0 H0 G (upd H q (.ins C dx (putF f v fs))) ∧ Sl K ⟨W, H0⟩ G (upd H q (.ins C dx (putF f v fs))) σ (δ.set i (some (.ob q C (putN f ns) (putV f d ns ds)))) := by
  obtain ⟨w, g1, dx, fs, rfl, g2, g3, g4, g5, g6⟩ := sl.at_ i _ h
  obtain ⟨a1, a2⟩ := putF_rp (f := f) r g3 g4
  refine ⟨dx, fs, g1, g2, by rw [← g3, List.length_map], fr.write g6 g5, ?_⟩
  have := own_write (s' := .ob q C (putN f ns) (putV f d ns ds)) fr sl h (List.mem_cons_self ..) g1 g5 g6 ⟨dx, _, rfl, upd_same, a1, a2, g5, g6⟩ fun l' z => List.mem_singleton.mp z
  rw [← set_self g1]
  have e0 : q ∈ (Sd.ob q C ns ds).fp (.ref q) := List.mem_cons_self ..
  refine sl.put i (s := .ob q C (putN f ns) (putV f d ns ds)) ⟨dx, _, rfl, upd_same, a1, a2, g5, g6⟩ (Same.refl _) (fun j s2 w hj hq hw l' hl' => ?_) fun j s2 w hj hq hw l' hl' z => ?_
  · have hne : l' ≠ q := fun z => sl.ne j i s2 _ w _ hj hq h hw g1 l' hl' (by rw [z]; exact e0)
    exact ⟨fun o2 ho => by rw [upd_ne hne]; exact ho, (sl.keep hq hw l' hl').2⟩
  · exact sl.ne j i s2 _ w _ hj hq h hw g1 l' hl' (by rw [List.mem_singleton.mp z]; exact e0)
end
end AL
end
/-! AL30 -/
section
set_option Elab.async false
set_option linter.all false
set_option maxRecDepth 100000
set_option maxHeartbeats 4000000
namespace AL
open PySem L2
section
variable {X : Cx} {W : List Addr} {δ : De} {D : EndsD} {e : Expr} {d1 d2 d3 : Dt} {rest : List Stmt} {p0 p1 p2 p3 q1 q2 q3 pos : Pos} {ns : List Str} {ds : List Dt} {C q : Addr}
/-- self.a, self.b, self.c = a tuple of three, self being made -/
theorem sds_unp3 (i : Nat) {x f1 f2 f3 : Str} {kt : Nat} (he : ED X δ e (.tup [d1, d2, d3])) (c : Cls X.K C) (n1 : NoAttr X.K C f1) (n2 : NoAttr X.K C f2) (n3 : NoAttr X.K C f3)
    (hr : SDs X W (δ.set i (some (.ob q C (putN f3 (putN f2 (putN f1 ns))) (putV f3 d3 (putN f2 (putN f1 ns)) (putV f2 d2 (putN f1 ns) (putV f1 d1 ns ds)))))) rest D) (h : δ[i]? = some (some (.ob q C ns ds)) := by rfl)
    (hz : ns.length < 1000 ∧ (putN f1 ns).length < 1000 ∧ (putN f2 (putN f1 ns)).length < 1000 := by decide) (hN : X.N[i]? = some x := by rfl) (hv : Vis X.env.scope x := by first | exact Or.inl rfl | exact Or.inr (Or.inl rfl) | exact Or.inr (Or.inr rfl)) (hdb : (x == ("__debug__" : Str)) = false := by decide) (hcd : (x == ("__classdict__" : Str)) = false := by decide) (hc : X.calm = true := by rfl)
    (hn : (assignEach [.Attribute (.Name x p1) f1 q1, .Attribute (.Name x p2) f2 q2, .Attribute (.Name x p3) f3 q3] X.env).length = 3 := by rfl) (hst : (assignEach [.Attribute (.Name x p1) f1 q1, .Attribute (.Name x p2) f2 q2, .Attribute (.Name x p3) f3 q3] X.env).findIdx? (·.1) = none := by rfl)
    (ha1 : (assignEach [.Attribute (.Name x p1) f1 q1, .Attribute (.Name x p2) f2 q2, .Attribute (.Name x p3) f3 q3] X.env).map (·.2) = assign (.Attribute (.Name x p1) f1 q1) X.env :: (assignEach [.Attribute (.Name x p2) f2 q2, .Attribute (.Name x p3) f3 q3] X.env).map (·.2) := by rfl)
    (ha2 : (assignEach [.Attribute (.Name x p2) f2 q2, .Attribute (.Name x p3) f3 q3] X.env).map (·.2) = assign (.Attribute (.Name x p2) f2 q2) X.env :: (assignEach [.Attribute (.Name x p3) f3 q3] X.env).map (·.2) := by rfl)
    (ha3 : (assignEach [.Attribute (.Name x p3) f3 q3] X.env).map (·.2) = assign (.Attribute (.Name x p3) f3 q3) X.env :: (assignEach [] X.env).map (·.2) := by rfl)
    (hs : swapsWithSole [.Tuple [.Attribute (.Name x p1) f1 q1, .Attribute (.Name x p2) f2 q2, .Attribute (.Name x p3) f3 q3] kt p0] e pos.line X.env = pure false := by rfl) (hw : swappedStores [.Tuple [.Attribute (.Name x p1) f1 q1, .Attribute (.Name x p2) f2 q2, .Attribute (.Name x p3) f3 q3] kt p0] e X.env = pure none := by rfl)
    (h1 : (assignEach [.Tuple [.Attribute (.Name x p1) f1 q1, .Attribute (.Name x p2) f2 q2, .Attribute (.Name x p3) f3 q3] kt p0] X.env).map (·.2) = [assign (.Tuple [.Attribute (.Name x p1) f1 q1, .Attribute (.Name x p2) f2 q2, .Attribute (.Name x p3) f3 q3] kt p0) X.env] := by rfl) :
    SDs X W δ (.Assign [.Tuple [.Attribute (.Name x p1) f1 q1, .Attribute (.Name x p2) f2 q2, .Attribute (.Name x p3) f3 q3] kt p0] e pos :: rest) D :=
  sds_cons (M := fun δ' => δ' = δ.set i (some (.ob q C (putN f3 (putN f2 (putN f1 ns))) (putV f3 d3 (putN f2 (putN f1 ns)) (putV f2 d2 (putN f1 ns) (putV f1 d1 ns ds)))))) (PS.imp (ps_asg he (pg_tup hc (pgs_cons (pg_fld (pv i hN hv hdb hcd)) (pgs_cons (pg_fld (pv i hN hv hdb hcd)) (pgs_cons (pg_fld (pv i hN hv hdb hcd)) pgs_nil ha3) ha2) ha1) hn hst) hs hw h1) fun E σ H ⟨G0, H0, G, fr, sl, k⟩ => ⟨_, G, fr.s, sl, fun v G1 H1 f r => by
    obtain ⟨fr1, sl1⟩ := go fr sl f
    cases r with
    | tup hx rx =>
    cases rx with
    | cons r1 rx =>
    cases rx with
    | cons r2 rx =>
    cases rx with
    | cons r3 rx =>
    cases rx
    refine ⟨_, _, rfl, .of (fr1.s _ _ hx), rfl, _, _, rfl, ?_⟩
    obtain ⟨dx1, fs1, a1, a2, a3, fr2, sl2⟩ := fld_step (f := f1) fr1 sl1 h r1
    have hil : i < δ.length := (List.getElem?_eq_some_iff.mp h).1
    refine ⟨_, a1, q, C, dx1, fs1, rfl, a2, c, n1, by rw [a3]; exact hz.1, _, _, rfl, ?_⟩
    obtain ⟨dx2, fs2, b1, b2, b3, fr3, sl3⟩ := fld_step (f := f2) fr2 sl2 (List.getElem?_set_self hil) r2
    refine ⟨_, b1, q, C, dx2, fs2, rfl, b2, c, n2, by rw [b3]; exact hz.2.1, _, _, rfl, ?_⟩
    rw [List.set_set] at sl3
    obtain ⟨dx3, fs3, c1, c2, c3, fr4, sl4⟩ := fld_step (f := f3) fr3 sl3 (List.getElem?_set_self hil) r3
    rw [List.set_set] at sl4
    refine ⟨_, c1, q, C, dx3, fs3, rfl, c2, c, n3, by rw [c3]; exact hz.2.2, rfl, ?_⟩
    exact k.nx _ _ _ ⟨G1, f.g, fr4, sl4⟩ rfl⟩) fun δ' z => z ▸ hr
end
end AL
end
/-! AL31 -/
section
set_option Elab.async false
set_option linter.all false
set_option maxRecDepth 100000
set_option maxHeartbeats 4000000
namespace AL
open PySem PySem.Spec PyProof.Rows L2
/-! ### dicts that are locked: they may be gone through -/
abbrev dlD (kds : KDs) : Dt := .dl (kds.map (·.1)) (kds.map (·.2))
section
variable {K : PySem.W.Frag} {G : Hp} {kds : KDs}
theorem Rp.dlD {v : V} (r : Rp K G v (dlD kds)) : ∃ a kvs o, v = .ref a ∧ G a = some (.frz o (.dK kvs)) ∧ RpK K G kvs kds := by
  cases r with
  | dl h k r => exact ⟨_, _, _, rfl, h, .of k r⟩
theorem RpK.toL {a : Addr} {o : Obj} {kvs : List (Key × V)} (h : G a = some (.frz o (.dK kvs))) (r : RpK K G kvs kds) : Rp K G (.ref a) (AL.dlD kds) := .dl h r.keys r.vals
theorem Rp.ofKey (k : Key) : Rp K G (kV k) (keyD k) := by
  cases k with
  | inl i => exact .int i
  | inr x => exact .str x
theorem RpK.len : ∀ {a : List (Key × V)} {b : KDs}, RpK K G a b → a.length = b.length
  | _, _, .nil => rfl
  | _, _, .cons _ _ r => congrArg Nat.succ r.len
theorem RpK.key_at : ∀ {a : List (Key × V)} {b : KDs} {i : Nat} {k : Key} {v : V}, RpK K G a b → a[i]? = some (k, v) → (b.map (·.1))[i]? = some k
  | _, _, 0, k, v, .cons k' h r, e => by
    simp at e
    simp [e.1]
  | _, _, i + 1, k, v, .cons k' h r, e => by
    simp only [List.getElem?_cons_succ] at e
    simpa using r.key_at e
end
/-- what comes is a dict: it is locked at once -/
theorem _root_.L2.PE.lockV {X : Cx} {e : Expr} {t : TE} (h : PE X e t) : PE X e (fun σ H Q => t σ H fun x H1 => ∃ d kvs, x = .ref d ∧ H1 d = some (.dK kvs) ∧ ∀ o, Q x (upd H1 d (.frz o (.dK kvs)))) :=
  ⟨fun pins s σ H Q I hw => thn (h.run pins s σ H _ I hw) fun u s1 ⟨x, H1, I1, r, d, kvs, ex, hd, q⟩ => by
    obtain ⟨od, I2⟩ := I1.lock hd trivial
    exact ⟨x, _, I2, r, q od⟩⟩
section
variable {X : Cx} {δ : De} {e o tg : Expr} {kds : KDs} {k : Key} {pos : Pos}
/-- for k in a locked dict -/
theorem id_keys (h : ED X δ e (dlD kds)) : ID X δ tg e ((kds.map (·.1)).map keyD) :=
  PI.imp (pi_keys h) fun σ H R ⟨O, G, e, s, q⟩ => ⟨O, G, e, s, fun v G1 H1 f1 r1 => by
    obtain ⟨a, kvs, o, rfl, hG, rk⟩ := r1.dlD
    have hl : ((kds.map (·.1)).map keyD).length = kvs.length := by rw [List.length_map, List.length_map, rk.len]
    refine ⟨a, o, rfl, .inl ⟨kvs, f1.s _ _ hG, q _ G1 H1 f1 fun G2 H2 e1 e2 => ⟨fun i hi => ⟨e2 _ _ (e1 _ _ hG), by rw [← hl]; exact hi⟩, ⟨e2 _ _ (e1 _ _ hG), Nat.le_of_eq hl.symm⟩, fun i x H3 hi y => ?_⟩⟩⟩
    obtain ⟨rfl, k, v, hk, rfl⟩ := y
    refine ⟨keyD k, G2, ?_, Fr.refl e2, Rp.ofKey k⟩
    rw [List.getElem?_map, rk.key_at hk]
    rfl⟩
theorem et_dinL (hu : X.A.units + 64 < cLine) (hk : ED X δ e (keyD k)) (ho : ED X δ o (dlD kds)) (hm : behindInMarks .In o = false := by first | exact nomark _ | rfl) : ET X δ (.Compare e [.In] [o] pos) (valD kds k).isSome :=
  PT.imp (pt_cmp (pc_din (by omega) hk ho) hm) fun σ H Q ⟨O, G, e, s, q⟩ => ⟨O, G, e, s, fun v G1 H1 f1 r1 => ⟨O, G1, f1.s, s.mono f1, fun w G2 H2 f2 r2 => by
    obtain ⟨a, kvs, o, rfl, hG, rk⟩ := r2.dlD
    rw [r1.key]
    refine ⟨a, _, rfl, .inl ⟨kvs, k, .inr ⟨o, f2.s _ _ hG⟩, rfl, rfl⟩, ?_⟩
    rw [dget_some rk]
    exact ⟨_, rfl, q G2 H2 (f1.trans f2)⟩⟩⟩
end
end AL
end
/-! AL32 -/
section
set_option Elab.async false
set_option linter.all false
set_option maxRecDepth 100000
set_option maxHeartbeats 4000000
namespace AL
open PySem PySem.Spec PyProof.Rows L2
/-! ### {k: v for x in a for y in b} -/
section
variable {prog : Program} {w : World} {A : Around} {R : Result → Shared → Prop} {s : Shared} {kx vx t0 i0 t1 i1 : Expr} {scope : Scope} {pos : Pos} {it : Value} {D : Addr} {env : Env}
abbrev dcx (kx vx t0 i0 t1 i1 : Expr) (scope : Scope) (pos : Pos) : Expr := .DictComp kx vx [⟨t0, i0, [], 0⟩, ⟨t1, i1, [], 0⟩] scope pos
theorem dcx_turn0 : compTurn (dcx kx vx t0 i0 t1 i1 scope pos) 0 it (.ref D) env = (do
    standAt i0.pos
    match ← pyNext it with
    | none => pure (.done .next)
    | some v => do
      letOwnedTupleGo t0 it v
      assign t0 env v
      let y ← eval i1 env
      standAt i1.pos
      let y ← foldedSetIterable i1 env y
      let _ ← runOwn (.compStart (dcx kx vx t0 i0 t1 i1 scope pos) 1 (← holding [y] (pyIter y)) (.ref D) env) env
      again (.compLoop (dcx kx vx t0 i0 t1 i1 scope pos) 0 it (.ref D) env)) := by rfl
theorem dcx_turn1 : compTurn (dcx kx vx t0 i0 t1 i1 scope pos) 1 it (.ref D) env = (do
    standAt i1.pos
    match ← pyNext it with
    | none => pure (.done .next)
    | some v => do
      letOwnedTupleGo t1 it v
      assign t1 env v
      (do
        let a ← eval kx env
        let b ← holding [a] (eval vx env)
        standAt { kx.pos with endLine := vx.pos.endLine, endCol := vx.pos.endCol }
        holding [a, b] (dictSet D a b))
      again (.compLoop (dcx kx vx t0 i0 t1 i1 scope pos) 1 it (.ref D) env)) := by rfl
/-- an error is noted -/
abbrev Nt (prog : Program) (w : World) (A : Around) (env : Env) (R : Result → Shared → Prop) : Value → Shared → Prop := notedBy (model prog w) A env fun e s' => R (.error e) s'
theorem dcx_outer (hs : ∀ x, foldedSetIterable i1 env x = pure x) (I : Nat → Shared → Prop)
    (turn : ∀ n s, I n s → _root_.PySem.wpAny (model prog w) A (pyNext it) (fun r s1 => match r with
      | none => R (.ok .next) s1
      | some v => _root_.PySem.wpAny (model prog w) A (letOwnedTupleGo t0 it v) (fun _ s2 => _root_.PySem.wpAny (model prog w) A (assign t0 env v) (fun _ s3 =>
          _root_.PySem.wpAny (model prog w) A (eval i1 env) (fun y s4 => _root_.PySem.wpAny (model prog w) A (pyIter y) (fun it1 s5 =>
            codeAny (model prog w) A (.compStart (dcx kx vx t0 i0 t1 i1 scope pos) 1 it1 (.ref D) env) (fun r s' => match r with
              | .ok _ => ∃ m, m < n ∧ I m s'
              | .error _ => False) s5) (Nt prog w A env R) s4) (Nt prog w A env R) s3) (Nt prog w A env R) s2) (Nt prog w A env R) s1) (Nt prog w A env R) s)
    (n : Nat) (h : I n s) : codeAny (model prog w) A (.compLoop (dcx kx vx t0 i0 t1 i1 scope pos) 0 it (.ref D) env) R s := by
  refine codeAny_loop rfl I (fun n s hI => ?_) n h
  show _root_.PySem.wpAny _ A ((compTurn (dcx kx vx t0 i0 t1 i1 scope pos) 0 it (.ref D) env).onRaise (fun x => do noteFrame x env; theTreesLotGoes x)) _ _ s
  refine wpAny_noted ?_
  rw [dcx_turn0]
  refine wpAny_bind (wpAny_standAt (wpAny_bind (wpAny_mono (turn n s hI) (fun r s1 h1 => ?_) fun _ _ z => z)))
  cases r with
  | none => exact wpAny_pure h1
  | some v =>
    refine wpAny_bind (wpAny_mono h1 (fun _ s2 h2 => wpAny_bind (wpAny_mono h2 (fun _ s3 h3 => wpAny_bind (wpAny_mono h3 (fun y s4 h4 => ?_) fun _ _ z => z)) fun _ _ z => z)) fun _ _ z => z)
    refine wpAny_bind (wpAny_standAt (wpAny_bind (wpAny_of_eq (hs y) (wpAny_bind (wpAny_holding (wpAny_mono h4 (fun it1 s5 h5 => ?_) fun _ _ z => z))))))
    refine wpAny_bind (wpAny_runOwn ?_)
    rw [Around.mark_none]
    refine codeAny_mono h5 fun r s' hr => ?_
    cases r with
    | ok f =>
      first
        | exact wpAny_pure ⟨rfl, hr⟩
        | exact wpAny_bind (wpAny_pure (wpAny_pure ⟨rfl, hr⟩))
    | error e => exact hr.elim
theorem dcx_inner (I : Nat → Shared → Prop)
    (turn : ∀ n s, I n s → _root_.PySem.wpAny (model prog w) A (pyNext it) (fun r s1 => match r with
      | none => R (.ok .next) s1
      | some v => _root_.PySem.wpAny (model prog w) A (letOwnedTupleGo t1 it v) (fun _ s2 => _root_.PySem.wpAny (model prog w) A (assign t1 env v) (fun _ s3 =>
          _root_.PySem.wpAny (model prog w) A (eval kx env) (fun a s4 => _root_.PySem.wpAny (model prog w) A (eval vx env) (fun b s5 =>
            _root_.PySem.wpAny (model prog w) A (dictSet D a b) (fun _ s6 => ∃ m, m < n ∧ I m s6) (Nt prog w A env R) s5) (Nt prog w A env R) s4) (Nt prog w A env R) s3) (Nt prog w A env R) s2) (Nt prog w A env R) s1) (Nt prog w A env R) s)
    (n : Nat) (h : I n s) : codeAny (model prog w) A (.compLoop (dcx kx vx t0 i0 t1 i1 scope pos) 1 it (.ref D) env) R s := by
  refine codeAny_loop rfl I (fun n s hI => ?_) n h
  show _root_.PySem.wpAny _ A ((compTurn (dcx kx vx t0 i0 t1 i1 scope pos) 1 it (.ref D) env).onRaise (fun x => do noteFrame x env; theTreesLotGoes x)) _ _ s
  refine wpAny_noted ?_
  rw [dcx_turn1]
  refine wpAny_bind (wpAny_standAt (wpAny_bind (wpAny_mono (turn n s hI) (fun r s1 h1 => ?_) fun _ _ z => z)))
  cases r with
  | none => exact wpAny_pure h1
  | some v =>
    refine wpAny_bind (wpAny_mono h1 (fun _ s2 h2 => wpAny_bind (wpAny_mono h2 (fun _ s3 h3 => ?_) fun _ _ z => z)) fun _ _ z => z)
    exact wpAny_bind (wpAny_bind (wpAny_mono h3 (fun a s4 h4 => wpAny_bind (wpAny_holding (wpAny_mono h4 (fun b s5 h5 => wpAny_bind (wpAny_standAt (wpAny_holding (wpAny_mono h5 (fun _ s6 h6 => wpAny_pure ⟨rfl, h6⟩) fun _ _ z => z)))) fun _ _ z => z))) fun _ _ z => z))
/-- the second source is asked, its loop begun -/
theorem dcx_start1 (h0 : codeAny (model prog w) A (.compLoop (dcx kx vx t0 i0 t1 i1 scope pos) 1 it (.ref D) env) R s)
    (h : _root_.PySem.wpAny (model prog w) A (pyIter it) (fun it' s' => codeAny (model prog w) A (.compLoop (dcx kx vx t0 i0 t1 i1 scope pos) 1 it' (.ref D) env) R s') (Nt prog w A env R) s) :
    codeAny (model prog w) A (.compStart (dcx kx vx t0 i0 t1 i1 scope pos) 1 it (.ref D) env) R s := by
  refine codeAny_of_tree ?_
  show _root_.PySem.wpAny _ _ ((compStart (dcx kx vx t0 i0 t1 i1 scope pos) 1 it (.ref D) env).onRaise (fun x => do noteFrame x env; standAt theWindowsPlace)) _ _ s
  refine wpAny_notedAt ?_
  unfold compStart
  show _root_.PySem.wpAny _ _ (ask >>= _) _ _ s
  refine wpAny_bind (wpAny_askSetting (PySem.wpAny_ite ?_))
  split
  · first
      | exact wpAny_bind (wpAny_pure (wpAny_pure ⟨rfl, h0⟩))
      | exact wpAny_pure ⟨rfl, h0⟩
  · refine wpAny_bind (wpAny_rule ?_)
    first
      | exact wpAny_bind (wpAny_standAt (wpAny_bind (wpAny_mono h (fun it' s' h' => wpAny_pure ⟨rfl, h'⟩) fun _ _ z => z)))
      | (show _root_.PySem.wpAny _ _ (standAt i1.pos >>= _) _ _ s; exact wpAny_bind (wpAny_standAt (wpAny_bind (wpAny_mono h (fun it' s' h' => wpAny_pure ⟨rfl, h'⟩) fun _ _ z => z))))
end
end AL
end
/-! AL33 -/
section
set_option Elab.async false
set_option linter.all false
set_option maxRecDepth 100000
set_option maxHeartbeats 4000000
namespace AL
open PySem PySem.Spec PyProof.Rows L2
/-! ### != of two instances of a class that takes its == from another one -/
section
variable {prog : Program} {w : World} {A : Around} {E : Value → Shared → Prop} {s : Shared} {K : PySem.W.Frag} {x C f : Addr} {ox : Obj} {od : Option Obj} {name : Str} {b g : Value}
theorem ifBoundB {args : List Value} {Q : Option Value → Shared → Prop} (X : K.In s.heap) (I : PySem.W.InstAt s.heap x ox C od) (hs : PySem.W.findIn K (.ref C) name = some (some g)) (hb : ∀ self, bindSpecial g self = pure (g, [self]))
    (h : _root_.PySem.wpAny (model prog w) A (call g (.ref x :: args)) (fun v => Q (some v)) E s) : _root_.PySem.wpAny (model prog w) A (callSpecialIfBound? (.ref x) name args) Q E s := by
  simp only [callSpecialIfBound?, bindSpecialIfBound?]
  refine wpAny_holding (wpAny_bind (wpAny_bind (wpAny_bind (I.type.here ((PySem.W.looks_findIn X hs).here ?_)))))
  refine wpAny_bind (wpAny_askSetting (PySem.wpAny_ite ?_))
  have fin : _root_.PySem.wpAny (model prog w) A (call g ([.ref x] ++ args) >>= fun v => pure (some v)) Q E s := wpAny_bind (wpAny_mono h (fun v s' h' => wpAny_pure h') fun _ _ h' => h')
  split
  · exact wpAny_bind (wpAny_of_eq (hb _) (wpAny_pure (by exact fin)))
  · exact wpAny_tryCatch (wpAny_bind (wpAny_of_eq (hb _) (wpAny_pure (by exact fin))))
theorem call_ne {Q : Value → Shared → Prop} (hu : A.units + 1 < cLine) (X : K.In s.heap) (I : PySem.W.InstAt s.heap x ox C od) (heq : PySem.W.findIn K (.ref C) "__eq__" = some (some (.ref f))) (hf : PySem.W.isFn K (.ref f) = true) (hm : PySem.W.mroIn K C (.type "object") = some true)
    (h : _root_.PySem.wpAny (model prog w) A.in1 (call (.ref f) [.ref x, b]) (fun v s' => ∃ r, v = .bool r ∧ Q (.bool (!r)) s') E s) : _root_.PySem.wpAny (model prog w) A (call (.builtin "object.__ne__") [.ref x, b]) Q E s := by
  refine wpAny_call (codeAny_call_builtin F.slot_object_ne.plain F.entry_object_ne (PySem.W.check_slot F.cmpKind_ne F.cmpSplit_ne ((I.type (M := model prog w)).andThen (PySem.W.looks_mroIn X hm)) (F.args_object_ne_2 _ _) ?_))
  unfold Builtin.«object.__ne__»
  repeat (first
    | with_reducible refine wpAny_cRoomFor hu ?_
    | (refine wpAny_bind (m := callSpecialIfBound? (.ref x) (Str.ofString "__eq__") _) (PySem.W.ifBound_K X I heq hf (wpAny_mono h (fun r s' hr => by
          obtain ⟨c, rfl, hq⟩ := hr
          repeat (first | exact hq | exact wpAny_pure hq | exact wpAny_truthy_bool hq | (refine wpAny_bind (m := truthy (.bool _)) (wpAny_truthy_bool ?_)) | wp_step)) fun _ _ e => e)))
    | wp_step)
theorem ne_K {Q : Value → Shared → Prop} (hu : A.units + 2 < cLine) (X : K.In s.heap) (I : PySem.W.InstAt s.heap x ox C od) (hb : PySem.W.Looks (model prog w) s.heap (typeOf b) (.ref C)) (hne : PySem.W.findIn K (.ref C) "__ne__" = some (some (.builtin "object.__ne__")))
    (heq : PySem.W.findIn K (.ref C) "__eq__" = some (some (.ref f))) (hf : PySem.W.isFn K (.ref f) = true) (hm : PySem.W.mroIn K C (.type "object") = some true)
    (h : _root_.PySem.wpAny (model prog w) A.in1 (call (.ref f) [.ref x, b]) (fun v s' => ∃ r, v = .bool r ∧ Q (.bool (!r)) s') E s) : _root_.PySem.wpAny (model prog w) A (richCompare .NotEq (.ref x) b) Q E s := by
  have one : _root_.PySem.wpAny (model prog w) A (tryCompare (.ref x) (cmpInfo .NotEq).2.1 b) (fun r s' => ∃ v, r = some v ∧ Q v s') E s := by
    unfold tryCompare
    refine wpAny_bind (ifBoundB X I hne (fun self => F.slot_object_ne.bind self) (call_ne (by omega) X I heq hf hm (wpAny_mono h (fun v s' ⟨r, ev, hv⟩ => ⟨r, ev, ?_⟩) fun _ _ e => e)))
    exact wpAny_pure ⟨_, rfl, hv⟩
  unfold richCompare
  simp only [oneThing_ref]
  refine wpAny_holding (wpAny_bind (wpAny_cRoomFor (by omega) ?_))
  refine wpAny_bind (I.type.here (wpAny_bind (hb.here ?_)))
  rw [if_neg (by simp)]
  refine wpAny_bind (wpAny_pure ?_)
  simp only [Bool.false_eq_true, if_false]
  refine wpAny_bind (wpAny_mono one (fun r s' z => ?_) fun _ _ e => e)
  obtain ⟨v, rfl, hq⟩ := z
  exact wpAny_pure hq
end
end AL
end
/-! AL34 -/
section
set_option Elab.async false
set_option linter.all false
set_option maxRecDepth 100000
set_option maxHeartbeats 4000000
namespace AL
open PySem PySem.Spec PyProof.Rows L2
/-! ### o.__class__.__name__ of an instance of an own class -/
structure NmC (K : PySem.W.Frag) (C : Addr) (nm : Str) : Prop where
  reads : PySem.W.readsIn K C (.type "type") = true
  find : PySem.W.findCls K (.ref C) (.type "type") "__name__" = some (.get (.builtin "getset_descriptor.__get__") (.builtin "type.__name__") (.ref C) (.type "type"))
  ty : PySem.W.typeIn K (.ref C) = some (.type "type")
  slot : ∃ (oc : Value) (od : Option Addr) (cd : ClassData) (sl : Array (Option Value)) (t : Tok), K.lookup C = some ⟨oc, od, .cls cd, sl⟩ ∧ sl[2]? = some (some (.str nm t))
section
variable {prog : Program} {w : World} {A : Around} {E : Value → Shared → Prop} {s : Shared} {K : PySem.W.Frag} {C : Addr} {nm : Str} {tp : Value} {R : Result → Shared → Prop}
theorem clsname_get (X : K.In s.heap) (n : NmC K C nm) (h : ∀ t, R (.ok (.ret (.str nm t))) s) : codeAny (model prog w) A (.call (.builtin "getset_descriptor.__get__") ⟨[.builtin "type.__name__", .ref C, tp], []⟩) R s := by
  obtain ⟨oc, od, cd, sl, t, hk, hs⟩ := n.slot
  have ho := X _ _ hk
  have L0 := PySem.W.looks_typeIn (M := model prog w) X n.ty
  have L1 : PySem.W.Looks (model prog w) s.heap (isSubtype (.type "type") (.type "type")) true := PySem.W.Looks.of_pure (by rw [isSubtype_type]; kernel_rfl)
  obtain ⟨hh, g, dr, tk, os⟩ := s
  dsimp only at X ho L0 L1
  refine codeAny_call_builtin PySem.W.KF.slot_gs.plain PySem.W.KF.entry_gs (PySem.W.KF.slot_gs.check _ _ _ _ _ _ _ _ PySem.W.ktyn_type (PySem.W.KF.args_gs _ _ _) ?_)
  unfold Builtin.«getset_descriptor.__get__» Builtin.Getset_descriptor.descrGet
  rw [PySem.W.dga_obj]
  refine wpAny_bind (wpAny_pure ?_)
  unfold Builtin.Getset_descriptor.descrGetter Builtin.Getset_descriptor.descrCheckInstance Builtin.Getset_descriptor.descrNameAndClass isInstance
  simp only [PySem.W.ktyn_owner]
  repeat lk
  refine ⟨Code.quiet_builtin _ (by decide +kernel), codeAny_builtin PySem.W.ktyn_entry ?_⟩
  unfold Builtin.«type.__name__»
  dsimp only
  unfold Builtin.keptObject PySem.slotAt
  dsimp only
  refine wpAny_bind (wpAny_bind (wpAny_loadPart ho ?_))
  refine wpAny_pure ?_
  dsimp only
  rw [hs]
  exact wpAny_pure (h t)
theorem clsname_attr {expr : Bool} {Q : Value → Shared → Prop} (X : K.In s.heap) (n : NmC K C nm) (h : ∀ t u, Q (.str nm t) { s with toks := u }) : _root_.PySem.wpAny (model prog w) A (getAttr (.ref C) "__name__" expr) Q E s := by
  refine PySem.W.cls_bind X n.reads n.find (wpAny_call (clsname_get (s := { s with toks := s.toks + 1 }) X n fun t => ?_))
  exact PySem.W.handed_on rfl (h _ _)
end
end AL
end
/-! HX -/
section
set_option Elab.async false
set_option linter.all false
set_option maxRecDepth 100000
set_option maxHeartbeats 0
namespace HX
open PySem PySem.W PySem.Calls PyProof.Rows AZ
open L2 (defArgs defBody defScope)
/-! ### more facts, read off the run -/
def okO {α : Type} [DecidableEq α] (a b : α) : Bool := decide (a = b)
/-- facts of one's own as a test -/
def ownB (K : Frag) : Bool := kitL.all (fun p => decide (kitOne K (.ref (He.ga K p.1)) (.ref (He.ga K p.2)) = some true)) &&
  insL.all fun c => decide (findIn K (.ref (He.ga K c)) "__class__" = some (some (.builtin "object.__class__"))) && (decide (specialIn K (.builtin "object.__class__") "__get__" = some (some (.builtin "getset_descriptor.__get__"))) && (decide (takesIn K (.builtin "object.__class__") = some true) && decide (mroIn K (He.ga K c) (.type "object") = some true)))
theorem own_ok {K : Frag} (h : ownB K = true) : Own K := by
  obtain ⟨h1, h2⟩ := Bool.and_eq_true_iff.mp h
  refine ⟨fun p hp => of_decide_eq_true (List.all_eq_true.mp h1 p hp), fun c hc => ?_⟩
  have h3 := List.all_eq_true.mp h2 c hc
  obtain ⟨a1, h3⟩ := Bool.and_eq_true_iff.mp h3
  obtain ⟨a2, h3⟩ := Bool.and_eq_true_iff.mp h3
  obtain ⟨a3, a4⟩ := Bool.and_eq_true_iff.mp h3
  exact ⟨of_decide_eq_true a1, of_decide_eq_true a2, of_decide_eq_true a3, of_decide_eq_true a4⟩
/-! #### __init__ of the papers -/
abbrev FnC : Type := Option (Str × Str × Arguments × FuncBody × Scope × Addr × Addr)
def fnC (K : Frag) (p : Str × Option Str) : FnC := match K.lookup (He.fAd K p) with
  | some ⟨_, _, .func fd, _⟩ => some (fd.name, fd.qualname, fd.params, fd.body, fd.scope, fd.globals, fd.builtins)
  | _ => none
structure SuD where
  C : Str
  qual : Str
  st : Stmt
def suL : List SuD := [⟨"Copies", "Copies.__init__", s_Copies__init⟩, ⟨"Lets", "Lets.__init__", s_Lets__init⟩, ⟨"Stands", "Stands.__init__", s_Stands__init⟩, ⟨"Parts", "Parts.__init__", s_Parts__init⟩]
def SuD.val (d : SuD) : FnC := some (("__init__" : Str), d.qual, defArgs d.st, FuncBody.stmts (defBody d.st), defScope d.st, mainGlobals, builtinsNs)
def isNone : Value → Bool
  | .none => true
  | _ => false
def codeB (K : Frag) (c : Addr) : Bool := match K.lookup c with
  | some ⟨_, _, .fields vs, _⟩ => (match (vs : Array Value)[2]? with
    | some (Value.str f _) => decide (f = fileS)
    | _ => false)
  | _ => false
def cellB (K : Frag) (cc C : Addr) : Bool := match K.lookup cc with
  | some ⟨_, _, .cell (some (.ref D)), _⟩ => decide (D = C)
  | _ => false
def supB (K : Frag) (d : SuD) : Bool := match K.lookup (He.fAd K (d.C, some "__init__")) with
  | some ⟨_, _, .func fd, _⟩ => (match fd.code, fd.closure with
    | .ref c, [(x, cc)] => decide (x = ("__class__" : Str)) && (isNone fd.defaults && (codeIn K (.ref c) d.qual && (codeB K c && cellB K cc (He.ga K d.C))))
    | _, _ => false)
  | _ => false
def supC (K : Frag) (d : SuD) : Bool := (clsIn K (He.ga K d.C)).isSome && (decide (mroIn K (He.ga K d.C) (.ref (He.ga K d.C)) = some true) && decide (ks_superIn K (He.ga K d.C) (He.ga K d.C) "__init__" = some (some (.ref (He.fAd K ("Paper", some "__init__"))))))
def genB (K : Frag) : Bool := decide (typeIn K (.ref (He.fAd K ("Paper", some "__init__"))) = some (.type "function")) && (decide (nsIn K cStatics "thirdparty.any" = some none) && fnIn K (He.fAd K ("Paper", some "__init__")))
theorem sup_ok {K : Frag} {d : SuD} (e : fnC K (d.C, some "__init__") = d.val) (h : supB K d = true) (h2 : supC K d = true) (g : genB K = true) : SupC K d.C d.qual d.st := by
  obtain ⟨g1, g2⟩ := Bool.and_eq_true_iff.mp g
  obtain ⟨g2, g3⟩ := Bool.and_eq_true_iff.mp g2
  obtain ⟨c1, c2⟩ := Bool.and_eq_true_iff.mp h2
  obtain ⟨c2, c3⟩ := Bool.and_eq_true_iff.mp c2
  unfold supB at h
  unfold fnC at e
  cases q : K.lookup (He.fAd K (d.C, some "__init__")) with
  | none =>
    rw [q] at h
    cases h
  | some o =>
    obtain ⟨oc, od, dt, osl⟩ := o
    rw [q] at h e
    cases dt with
    | func fd =>
      obtain ⟨n1, n2, n3, n4, n5, n6, n7, n8, n9, n10, n11, n12, n13, n14, n15⟩ := fd
      have e2 : (some (n1, n2, n3, n4, n5, n6, n15) : FnC) = some (("__init__" : Str), d.qual, defArgs d.st, FuncBody.stmts (defBody d.st), defScope d.st, mainGlobals, builtinsNs) := e
      simp only [Option.some.injEq, Prod.mk.injEq] at e2
      obtain ⟨h1, h2, h3, h4, h5, h6, h7⟩ := e2
      subst h1 h2 h3 h4 h5 h6 h7
      cases n13 with
      | ref c =>
        cases n7 with
        | nil => cases h
        | cons xc r =>
          obtain ⟨x, cc⟩ := xc
          cases r with
          | cons _ _ => cases h
          | nil =>
            have h' : (decide (x = ("__class__" : Str)) && (isNone n8 && (codeIn K (.ref c) d.qual && (codeB K c && cellB K cc (He.ga K d.C))))) = true := h
            obtain ⟨k1, h'⟩ := Bool.and_eq_true_iff.mp h'
            obtain ⟨k2, h'⟩ := Bool.and_eq_true_iff.mp h'
            obtain ⟨k3, h'⟩ := Bool.and_eq_true_iff.mp h'
            obtain ⟨k4, k5⟩ := Bool.and_eq_true_iff.mp h'
            obtain rfl : x = ("__class__" : Str) := of_decide_eq_true k1
            have hn8 : n8 = .none := by
              cases n8 <;> first | rfl | cases k2
            subst hn8
            refine ⟨c, cc, _, ⟨oc, od, n9, n10, n11, n12, n14, osl, rfl, q⟩, k3, ?_, ?_, ?_, of_decide_eq_true c2, of_decide_eq_true c3, of_decide_eq_true g1, of_decide_eq_true g2, g3⟩
            · unfold codeB at k4
              split at k4
              · rename_i a b vs sl hl
                split at k4
                · rename_i f t hf
                  obtain rfl : f = fileS := of_decide_eq_true k4
                  exact ⟨_, _, vs, _, t, hl, hf⟩
                · cases k4
              · cases k4
            · unfold cellB at k5
              split at k5
              · rename_i a b D sl hl
                obtain rfl : D = He.ga K d.C := of_decide_eq_true k5
                exact ⟨_, _, _, hl⟩
              · cases k5
            · exact Option.isSome_iff_exists.mp c1
      | _ => cases h
    | _ => cases h
/-! #### papers' == and names -/
def slotB (K : Frag) (C : Addr) (nm : Str) : Bool := match K.lookup C with
  | some ⟨_, _, .cls _, sl⟩ => (match (sl : Array (Option Value))[2]? with
    | some (some (Value.str x _)) => decide (x = nm)
    | _ => false)
  | _ => false
def findB (K : Frag) (C : Addr) : Bool := match findCls K (.ref C) (.type "type") "__name__" with
  | some (.get (.builtin f) (.builtin n) (.ref D) (.type t)) => decide (f = "getset_descriptor.__get__") && (decide (n = "type.__name__") && (decide (D = C) && decide (t = "type")))
  | _ => false
def nmB (K : Frag) (C : Addr) (nm : Str) : Bool := readsIn K C (.type "type") && (findB K C && (decide (typeIn K (.ref C) = some (.type "type")) && slotB K C nm))
theorem nm_ok {K : Frag} {C : Addr} {nm : Str} (h : nmB K C nm = true) : AL.NmC K C nm := by
  obtain ⟨h1, h⟩ := Bool.and_eq_true_iff.mp h
  obtain ⟨h2, h⟩ := Bool.and_eq_true_iff.mp h
  obtain ⟨h3, h4⟩ := Bool.and_eq_true_iff.mp h
  refine ⟨h1, ?_, of_decide_eq_true h3, ?_⟩
  · unfold findB at h2
    split at h2
    · rename_i f n D t hq
      obtain ⟨k1, h2⟩ := Bool.and_eq_true_iff.mp h2
      obtain ⟨k2, h2⟩ := Bool.and_eq_true_iff.mp h2
      obtain ⟨k3, k4⟩ := Bool.and_eq_true_iff.mp h2
      obtain rfl := of_decide_eq_true k1
      obtain rfl := of_decide_eq_true k2
      obtain rfl := of_decide_eq_true k3
      obtain rfl := of_decide_eq_true k4
      exact hq
    · cases h2
  · unfold slotB at h4
    split at h4
    · rename_i oc od cd sl hl
      split at h4
      · rename_i x t hs
        obtain rfl := of_decide_eq_true h4
        exact ⟨oc, od, cd, sl, t, hl, hs⟩
      · cases h4
    · cases h4
def papB (K : Frag) (c : Str) : Bool := decide (findIn K (.ref (He.ga K c)) "__ne__" = some (some (.builtin "object.__ne__"))) && (decide (findIn K (.ref (He.ga K c)) "__eq__" = some (some (.ref (He.fAd K ("Paper", some "__eq__"))))) && nmB K (He.ga K c) c)
structure Pap (K : Frag) (C : Str) : Prop where
  ne : findIn K (.ref (He.ga K C)) "__ne__" = some (some (.builtin "object.__ne__"))
  eq : findIn K (.ref (He.ga K C)) "__eq__" = some (some (.ref (He.fAd K ("Paper", some "__eq__"))))
  nm : AL.NmC K (He.ga K C) C
theorem pap_ok {K : Frag} {c : Str} (h : papB K c = true) : Pap K c := by
  obtain ⟨h1, h⟩ := Bool.and_eq_true_iff.mp h
  obtain ⟨h2, h3⟩ := Bool.and_eq_true_iff.mp h
  exact ⟨of_decide_eq_true h1, of_decide_eq_true h2, nm_ok h3⟩
def papL : List Str := ["Lets", "Copies", "Stands"]
/-! #### the hook -/
abbrev AlA : Type := He.AlD
abbrev AlB : Type := He.AlD × Bool × List FnC
abbrev AlX : Type := AlA × AlB
def obsA (K : Frag) : AlA := He.obsD faL fnL K
def obsB (K : Frag) : AlB := (He.obsD faL2 fnL2 K, ownB K && (isFn K (.ref (He.fAd K ("Paper", some "__eq__"))) && ((papL.all fun c => papB K c) && (genB K && suL.all fun d => supB K d && supC K d))), suL.map fun d => fnC K (d.C, some "__init__"))
def obsX (K : Frag) : AlX := (obsA K, obsB K)
def valA : AlA := He.valD fnL
def valB : AlB := (He.valD fnL2, true, suL.map SuD.val)
def valX : AlX := (valA, valB)
/-! what the module's names reach, in one pass -/
def nsEs (g : Addr → Option Obj) (a : Addr) : List DictEntry := match g a with
  | some ⟨_, _, .dict es _, _⟩ => es.toList
  | _ => []
def fnRefs (g : Addr → Option Obj) (a : Addr) : List Addr := match g a with
  | some ⟨_, _, .func fd, _⟩ => He.refV fd.code ++ (He.refV fd.defaults ++ fd.closure.map (·.2))
  | _ => []
def obRefs (g : Addr → Option Obj) (a : Addr) : List Addr := match g a with
  | some ⟨_, _, .func fd, _⟩ => He.refV fd.code ++ (He.refV fd.defaults ++ fd.closure.map (·.2))
  | some ⟨_, _, .cls cd, _⟩ => cd.ns :: (nsEs g cd.ns).flatMap fun e => match e.val with
    | .ref m => m :: fnRefs g m
    | _ => []
  | _ => []
def asX (g : Addr → Option Obj) : List Addr := mainGlobals :: cStatics :: (nsEs g mainGlobals).flatMap fun e => match e.val with
  | .ref a => a :: obRefs g a
  | _ => []
def obsAG (g : Addr → Option Obj) : AlA := obsA (He.frG g (asX g))
def obsBG (g : Addr → Option Obj) : AlB := obsB (He.frG g (asX g))
def obsXG (g : Addr → Option Obj) : AlX := (obsAG g, obsBG g)
def hkX : Hook where
  α := AlX
  obs := fun s => obsXG s.heap.get?
  val := fun _ => valX
  says := fun _ h => ∃ K : Frag, K.In h ∧ obsX K = valX
  of := fun _ _ e => ⟨_, He.frG_in, e⟩
  keeps := fun _ _ _ ⟨K, hK, c⟩ k => ⟨K, Frag.In.keeps hK k, c⟩
theorem zd_of {K : Frag} {h : Heap} {mg : Str → Option Value} (X : K.In h) (G : h.Ns mainGlobals mg) (c : obsX K = valX) : Zd K mg ∧ isFn K (.ref (He.fAd K ("Paper", some "__eq__"))) = true ∧ ∀ c ∈ papL, Pap K c := by
  have c1 : He.obsD faL fnL K = He.valD fnL := congrArg (fun z : AlX => z.1) c
  have c2 : He.obsD faL2 fnL2 K = He.valD fnL2 := congrArg (fun z : AlX => z.2.1) c
  have c3 : (ownB K && (isFn K (.ref (He.fAd K ("Paper", some "__eq__"))) && ((papL.all fun c => papB K c) && (genB K && suL.all fun d => supB K d && supC K d)))) = true := congrArg (fun z : AlX => z.2.2.1) c
  have c4 : suL.map (fun d => fnC K (d.C, some "__init__")) = suL.map SuD.val := congrArg (fun z : AlX => z.2.2.2) c
  obtain ⟨o, c3⟩ := Bool.and_eq_true_iff.mp c3
  obtain ⟨fn, c3⟩ := Bool.and_eq_true_iff.mp c3
  obtain ⟨pp, c3⟩ := Bool.and_eq_true_iff.mp c3
  obtain ⟨g, c3⟩ := Bool.and_eq_true_iff.mp c3
  have key : ∀ d ∈ suL, SupC K d.C d.qual d.st := fun d hd => by
    obtain ⟨a, b⟩ := Bool.and_eq_true_iff.mp (List.all_eq_true.mp c3 d hd)
    exact sup_ok ((List.map_inj_left.mp c4) d hd) a b g
  exact ⟨⟨⟨⟨h, X, G⟩, c1, own_ok o⟩, c2, key ⟨"Copies", "Copies.__init__", s_Copies__init⟩ (by simp [suL]), key ⟨"Lets", "Lets.__init__", s_Lets__init⟩ (by simp [suL]), key ⟨"Stands", "Stands.__init__", s_Stands__init⟩ (by simp [suL]), key ⟨"Parts", "Parts.__init__", s_Parts__init⟩ (by simp [suL])⟩,
    fn, fun c hc => pap_ok (List.all_eq_true.mp pp c hc)⟩
end HX
end
/-! HeadT2 -/
section
set_option Elab.async false
set_option linter.all false
set_option maxRecDepth 100000
set_option maxHeartbeats 0
namespace AnyHead
open PySem PySem.W PySem.Calls PyProof.Rows
abbrev R : OpenRow := OpenLaw.row PySem.Challenge.rw_anyletter_k58_whole_any_deed_by_flags
abbrev qv : Program := view R.prog [119]
def names0 : List PySem.Str := [PySem.Str.ofString "LetterError", PySem.Str.ofString "BadNumber", PySem.Str.ofString "BadText", PySem.Str.ofString "BadWord", PySem.Str.ofString "BadBook", PySem.Str.ofString "BadRow", PySem.Str.ofString "BadEdits", PySem.Str.ofString "BadMachine", PySem.Str.ofString "Misfit", PySem.Str.ofString "LETTERS", PySem.Str.ofString "BLANK", PySem.Str.ofString "SIGNS", PySem.Str.ofString "MOST_LETTERS", PySem.Str.ofString "MOST_SIGNS", PySem.Str.ofString "is_integer", PySem.Str.ofString "is_within", PySem.Str.ofString "are_within", PySem.Str.ofString "is_word", PySem.Str.ofString "is_sign", PySem.Str.ofString "is_text", PySem.Str.ofString "need_number", PySem.Str.ofString "need_text", PySem.Str.ofString "LOST", PySem.Str.ofString "PUT", PySem.Str.ofString "CHANGED", PySem.Str.ofString "MOST_EDITS_edits", PySem.Str.ofString "is_edit", PySem.Str.ofString "can_be_done", PySem.Str.ofString "done", PySem.Str.ofString "behind", PySem.Str.ofString "fits", PySem.Str.ofString "need_edits", PySem.Str.ofString "damaged", PySem.Str.ofString "MOST_WORDS", PySem.Str.ofString "MOST_NUMBERS"]
def names1 : List PySem.Str := [PySem.Str.ofString "MOST_COPIES_books", PySem.Str.ofString "Book", PySem.Str.ofString "are_words", PySem.Str.ofString "need_book", PySem.Str.ofString "need_row", PySem.Str.ofString "need_copies", PySem.Str.ofString "text_in", PySem.Str.ofString "row_in", PySem.Str.ofString "spelled", PySem.Str.ofString "MOST_STATES", PySem.Str.ofString "Machine", PySem.Str.ofString "are_deeds", PySem.Str.ofString "need_machine", PySem.Str.ofString "end_of", PySem.Str.ofString "ends_of", PySem.Str.ofString "fixed", PySem.Str.ofString "Paper", PySem.Str.ofString "Denial", PySem.Str.ofString "MOST_MADE", PySem.Str.ofString "is_cut", PySem.Str.ofString "copies_told", PySem.Str.ofString "best_begins", PySem.Str.ofString "raised", PySem.Str.ofString "alone_cost", PySem.Str.ofString "side_costs", PySem.Str.ofString "border_cost", PySem.Str.ofString "Costs", PySem.Str.ofString "triples_of", PySem.Str.ofString "cheapest", PySem.Str.ofString "made_words", PySem.Str.ofString "price", PySem.Str.ofString "settling", PySem.Str.ofString "is_back", PySem.Str.ofString "settles", PySem.Str.ofString "MOST_COPIES_copies"]
def names2 : List PySem.Str := [PySem.Str.ofString "MOST_EDITS_copies", PySem.Str.ofString "Copies", PySem.Str.ofString "GoesRound", PySem.Str.ofString "Stands", PySem.Str.ofString "Parts", PySem.Str.ofString "need_asked", PySem.Str.ofString "without", PySem.Str.ofString "parted", PySem.Str.ofString "copies_for", PySem.Str.ofString "judged_text", PySem.Str.ofString "KEPT", PySem.Str.ofString "Lets", PySem.Str.ofString "Differs", PySem.Str.ofString "need_lets", PySem.Str.ofString "Walk", PySem.Str.ofString "steps_to", PySem.Str.ofString "rows_asked", PySem.Str.ofString "edits_along", PySem.Str.ofString "judged_machine", PySem.Str.ofString "_law_harbor", PySem.Str.ofString "_law_tide", PySem.Str.ofString "_law_one", PySem.Str.ofString "_law_book", PySem.Str.ofString "_law_price", PySem.Str.ofString "_law_deed", PySem.Str.ofString "_law_once", PySem.Str.ofString "_law_times", PySem.Str.ofString "_law_settles", PySem.Str.ofString "_law_end", PySem.Str.ofString "_law_spelled", PySem.Str.ofString "_law_done", PySem.Str.ofString "_law_edit", PySem.Str.ofString "_law_damage", PySem.Str.ofString "_law_worst", PySem.Str.ofString "_law_hurt"]
def names3 : List PySem.Str := [PySem.Str.ofString "_law_flags", PySem.Str.ofString "_law_flags_right", PySem.Str.ofString "_law_late_right"]
def names : List PySem.Str := names0 ++ names1 ++ names2 ++ names3
def obA (s : SharedT) : HX.AlA := HX.obsAG (HandSHeadRun.getT s)
def obB (s : SharedT) : HX.AlB := HX.obsBG (HandSHeadRun.getT s)
def ob (s : SharedT) : HX.AlX := (obA s, obB s)
theorem ob_eq (s : SharedT) : ob s = HX.hkX.obs s.abs := by
  have e : HandSHeadRun.getT s = s.abs.heap.get? := funext (HandSHeadRun.getT_eq s)
  show HX.obsXG (HandSHeadRun.getT s) = HX.obsXG s.abs.heap.get?
  rw [e]
theorem run0 (w : World) (os : OsState) : (HandSHeadRun.endF (HandSHeadRun.stepQ (HandSHeadRun.denQ HandSHeadRun.tabQ) R.prog w) 9000 R.prog w os).map (fun s => (HandSHeadRun.looksF R.prog (boot_heap w.params) s.abs, HandSHeadRun.seenQ qv names (importedModules R.prog.main.body) (fun s => xlAt qv [] s && recOk R.toRowW.records s) s.abs)) = some (true, openGood qv names) := by
  kernel_rfl
theorem runA (w : World) (os : OsState) : (HandSHeadRun.endF (HandSHeadRun.stepQ (HandSHeadRun.denQ HandSHeadRun.tabQ) R.prog w) 9000 R.prog w os).map obA = some HX.valA := by
  kernel_rfl
theorem runB (w : World) (os : OsState) : (HandSHeadRun.endF (HandSHeadRun.stepQ (HandSHeadRun.denQ HandSHeadRun.tabQ) R.prog w) 9000 R.prog w os).map obB = some HX.valB := by
  kernel_rfl
theorem run (w : World) : HandSHeadRun.RunEq R qv HX.hkX ob 9000 names w := fun os => by
  obtain ⟨s, e, h0⟩ := Option.map_eq_some_iff.mp (run0 w os)
  obtain ⟨s1, e1, h1⟩ := Option.map_eq_some_iff.mp (runA w os)
  obtain ⟨s2, e2, h2⟩ := Option.map_eq_some_iff.mp (runB w os)
  rw [e] at e1 e2
  cases e1
  cases e2
  rw [e]
  show some (_, _, (obA s, obB s)) = some (true, openGood qv names, HX.valX)
  have h3 := Prod.mk.inj h0
  rw [h3.1, h3.2, h1, h2]
  rfl
end AnyHead
end
/-! AP1 -/
section
set_option Elab.async false
set_option linter.all false
set_option maxRecDepth 100000
set_option maxHeartbeats 4000000
namespace AP
open PySem PySem.Spec PyProof.Rows L2 AL AZ
/-! ### texts as lists of signs -/
abbrev mk (l : List Nat) : Str := ⟨l.toArray⟩
abbrev ts (l : List Nat) : Dt := .str (mk l)
theorem mk_len (l : List Nat) : (mk l).length = l.length := by simp [Str.length, mk]
theorem mk_app (a b : List Nat) : mk a ++ mk b = mk (a ++ b) := by
  show Str.append _ _ = _
  simp [Str.append, mk]
theorem mk_inj {a b : List Nat} : mk a = mk b ↔ a = b := by
  constructor
  · intro h
    have := congrArg (fun z : Str => z.cps.toList) h
    simpa [mk] using this
  · rintro rfl; rfl
theorem mk_cut (l : List Nat) (lo hi : Option Int) : cutS (mk l) lo hi = mk (cutG l lo hi) := by
  unfold cutS cutG
  rw [mk_len]
def letters : List Nat := [97,98,99,100,101,102,103,104,105,106,107,108,109,110,111,112,113,114,115,116,117,118,119,120,121,122]
abbrev sign (c : Nat) : Prop := c ∈ letters ∨ c = 32
theorem lets_eq : (("abcdefghijklmnopqrstuvwxyz" : Str)).cps.toList = letters := by decide +kernel
theorem signs_eq : (("abcdefghijklmnopqrstuvwxyz " : Str)).cps.toList = letters ++ [32] := by decide +kernel
theorem blank_eq : ((" " : Str)) = mk [32] := by decide +kernel
theorem sl_le {n : Nat} (h : n ≤ 200000) : n ≤ sizeLine := Nat.le_trans h (by decide)
theorem signs_mem {l : List Nat} {d : Dt} (h : d ∈ signsD (mk l)) : ∃ c ∈ l, d = ts [c] := by
  unfold signsD at h
  obtain ⟨c, hc, rfl⟩ := List.mem_map.mp h
  exact ⟨c, by simpa using hc, rfl⟩
theorem signs_len (l : List Nat) : (signsD (mk l)).length = l.length := by simp [signsD]
section
variable {X : Cx} {δ : De} {a b e e2 : Expr} {l m : List Nat} {pos p2 : Pos}
theorem ed_to {n : Nat} (ha : ED X δ a (ts l)) (hh : ED X δ e (.int (n : Int))) (hz : l.length ≤ 200000) : ED X δ (.Subscript a (.Slice none (some e) none p2) pos) (ts (l.take n)) :=
  ed_is (ed_slS ha eo_none (eo_some hh) (by rw [mk_len]; exact sl_le hz)) (by rw [mk_cut, cutG_to])
theorem ed_from {n : Nat} (ha : ED X δ a (ts l)) (hh : ED X δ e (.int (n : Int))) (hz : l.length ≤ 200000) : ED X δ (.Subscript a (.Slice (some e) none none p2) pos) (ts (l.drop n)) :=
  ed_is (ed_slS ha (eo_some hh) eo_none (by rw [mk_len]; exact sl_le hz)) (by rw [mk_cut, cutG_from])
theorem opd_cats (h : l.length + m.length ≤ 400000) : OpD X (binaryOp .Add) (ts l) (ts m) (ts (l ++ m)) := by
  have q := opd_addS (X := X) (i := mk l) (j := mk m) (by rw [mk_len, mk_len]; exact Nat.le_trans h (by decide))
  rw [mk_app] at q
  exact q
theorem cld_lens (h : l.length ≤ 200000) : ClD X (.builtin "len") [ts l] (.int l.length) := by
  have q := cld_lenS (X := X) (z := mk l) (by rw [mk_len]; exact sl_le h)
  rw [mk_len] at q
  exact q
theorem atI_nat {α : Type} (xs : List α) (n : Nat) : L2.atI xs (n : Int) = xs[n]? := by
  unfold L2.atI
  by_cases h : n < xs.length
  · rw [ixN_eq h]; rfl
  · rw [List.getElem?_eq_none (Nat.le_of_not_lt h)]
    cases q : ixN xs.length (n : Int) with
    | none => rfl
    | some j =>
      unfold ixN at q
      simp [h] at q
theorem ed_at {n c : Nat} (ha : ED X δ a (ts l)) (hb : ED X δ b (.int (n : Int))) (h : l[n]? = some c) (hz : l.length ≤ 200000) (hs : PlainIx b := by exact fun _ _ => rfl) : ED X δ (.Subscript a b pos) (ts [c]) :=
  ed_ixS ha hb (by rw [atI_nat]; exact h) (by rw [mk_len]; exact sl_le hz) hs
theorem opd_eqs : OpD X (compareOp .Eq) (ts l) (ts m) (.bl (decide (l = m))) := by
  have q := opd_eqS (X := X) (i := mk l) (j := mk m)
  rw [show decide (mk l = mk m) = decide (l = m) from by rw [decide_eq_decide]; exact mk_inj] at q
  exact q
theorem opd_nes : OpD X (compareOp .NotEq) (ts l) (ts m) (.bl (!decide (l = m))) := by
  have q := opd_neS (X := X) (i := mk l) (j := mk m)
  rw [show decide (mk l = mk m) = decide (l = m) from by rw [decide_eq_decide]; exact mk_inj] at q
  exact q
theorem opd_b {f : Value → Value → Sem Value} {da db : Dt} {k k' : Bool} (h : OpD X f da db (.bl k)) (e : k = k') : OpD X f da db (.bl k') := e ▸ h
theorem opd_inc {c : Nat} {z : Str} {n : List Nat} (h : z.cps.toList = n) : OpD X (compareOp .In) (ts [c]) (.str z) (.bl (decide (c ∈ n))) := by
  have q := opd_inC (X := X) (c := c) (z := z)
  rw [h] at q
  exact q
end
section
variable {P : Program} {w : World} {K : PySem.W.Frag} {mg : Str → Option Value} {base : Heap}
theorem map_true {α : Type} (ns : List α) : (ns.map (fun _ => true)).all id = true := by simp
theorem bl_true {α : Type} (ns : List α) : (ns.map (fun _ => Dt.bl true)) = ((ns.map (fun _ => true)).map .bl) := by simp [Function.comp_def]
/-! ### checks -/
inductive RIs : List Dt → Dt → Prop
  | i (n : Int) : RIs [.int n] (.bl true)
  | l (xs : List Dt) : RIs [.lst xs] (.bl false)
theorem p_is_integer (Z : Zc K mg) : FnP P w K mg base 1 "is_integer" RIs 1 [] :=
  Z.mk_is_integer fun cdv A outer s H E ds d hr h => by
    cases h with
    | i n => exact sds_ret (ed_and (k := true) (k' := true) (ed_cb (ea_cons (ed_var 0) (ea_cons (ed_gt (n := "int") Z.f_int) ea_nil)) (cld_isi rfl rfl) Z.f_isinstance) fun _ => ed_one (ed_not (k := false) (ed_cb (ea_cons (ed_var 0) (ea_cons (ed_gt (n := "bool") Z.f_bool) ea_nil)) (cld_isi rfl rfl) Z.f_isinstance))) rfl
    | l xs => exact sds_ret (ed_and (k := false) (k' := true) (ed_cb (ea_cons (ed_var 0) (ea_cons (ed_gt (n := "int") Z.f_int) ea_nil)) (cld_isi rfl rfl) Z.f_isinstance) fun z => nomatch z) rfl
inductive RWithin : List Dt → Dt → Prop
  | i (n lo hi : Int) : RWithin [.int n, .int lo, .int hi] (.bl (decide (lo ≤ n) && decide (n ≤ hi)))
  | o (n lo : Int) : RWithin [.int n, .int lo, .non] (.bl (decide (lo ≤ n) && true))
  | l (xs : List Dt) (a b : Dt) : RWithin [.lst xs, a, b] (.bl false)
theorem p_is_within (Z : Zc K mg) : FnP P w K mg base 2 "is_within" RWithin 3 [] :=
  Z.mk_is_within fun cdv A outer s H E ds d hr h => by
    cases h with
    | i n lo hi =>
      refine sds_ifF (et_not (k := true) (et_val (ed_call (p_is_integer Z) hr (ea_cons (ed_var 0) ea_nil) (.i n)))) ?_
      exact sds_ret (ed_and (ed_or (k := false) (ed_cmp (ed_var 1) ed_non opd_isN) fun _ => ed_one (ed_cmp (ed_var 0) (ed_var 1) opd_ge)) fun _ => ed_one (ed_or (k := false) (ed_cmp (ed_var 2) ed_non opd_isN) fun _ => ed_one (ed_cmp (ed_var 0) (ed_var 2) opd_le))) rfl
    | o n lo =>
      refine sds_ifF (et_not (k := true) (et_val (ed_call (p_is_integer Z) hr (ea_cons (ed_var 0) ea_nil) (.i n)))) ?_
      exact sds_ret (ed_and (ed_or (k := false) (ed_cmp (ed_var 1) ed_non opd_isN) fun _ => ed_one (ed_cmp (ed_var 0) (ed_var 1) opd_ge)) fun _ => ed_one (ed_or (k := true) (k' := false) (ed_cmp (ed_var 2) ed_non opd_isN) fun z => nomatch z)) rfl
    | l xs a b =>
      refine sds_ifT (et_not (k := false) (et_val (ed_call (p_is_integer Z) hr (ea_cons (ed_var 0) ea_nil) (.l xs)))) ?_
      exact sds_ret ed_bl rfl
inductive RAre : List Dt → Dt → Prop
  | mk (ns : List Int) (lo hi : Int) (h : ∀ n ∈ ns, lo ≤ n ∧ n ≤ hi) (hz : ns.length ≤ 100000) : RAre [.lst (ns.map .int), .int lo, .int hi] (.bl true)
theorem p_are_within (Z : Zc K mg) : FnP P w K mg base 3 "are_within" RAre 3 [] :=
  Z.mk_are_within fun cdv A outer s H E ds d hr h => by
    cases h with
    | mk ns lo hi h hz =>
    have key : ∀ n ∈ ns.map Dt.int, RWithin ([n, .int lo, .int hi] ++ []) (.bl true) := fun n hn => by
      obtain ⟨m, hm, rfl⟩ := List.mem_map.mp hn
      obtain ⟨h1, h2⟩ := h m hm
      have q := RWithin.i m lo hi
      simp only [h1, h2, decide_true, Bool.and_self] at q
      exact q
    refine sds_ret (ed_and (k := true) (k' := true) (ed_cb (ea_cons (ed_var 0) (ea_cons (ed_tup (ea_cons (ed_gt (n := "list") Z.f_list) (ea_cons (ed_gt (n := "tuple") Z.f_tuple) ea_nil))) ea_nil)) (cld_isLT rfl rfl) Z.f_isinstance) fun _ => ed_one ?_) rfl
    refine ed_is (ed_cb (ea_cons (ed_is (ed_lcM 3 (fun _ => .bl true) (id_list (ed_var 0)) (blkOk_by (by kernel_rfl)) S_are_within.nd (fun s H C cl fp d hd => ed_call (p_is_within Z) hr (ea_cons (ed_var 3) (ea_cons (ed_var 1) (ea_cons (ed_var 2) ea_nil))) (key d hd)) (by simpa using hz)) (by rw [bl_true])) ea_nil) cld_all Z.f_all) (by rw [map_true])
inductive RWord : List Dt → Dt → Prop
  | mk (l : List Nat) (h : ∀ c ∈ l, c ∈ letters) (h1 : 1 ≤ l.length) (h2 : l.length ≤ 12) : RWord [ts l] (.bl true)
theorem p_is_word (Z : Zc K mg) : FnP P w K mg base 1 "is_word" RWord 1 [] :=
  Z.mk_is_word fun cdv A outer s H E ds d hr h => by
    cases h with
    | mk l h h1 h2 =>
    refine sds_ret (ed_and (k := true) (k' := true) (ed_cb (ea_cons (ed_var 0) (ea_cons (ed_gt (n := "str") Z.f_str) ea_nil)) (cld_isi rfl rfl) Z.f_isinstance) fun _ => ed_and (k := true) (k' := true) ?_ fun _ => ed_one ?_) rfl
    · exact ed_chain (k := true) (k' := true) ed_int (ed_cb (ea_cons (ed_var 0) ea_nil) (cld_lens (by omega)) Z.f_len) (ed_gi Z.c_MOST_LETTERS) (opd_b opd_le (decide_eq_true (by omega))) (opd_b opd_le (decide_eq_true (by omega)))
    · refine ed_is (ed_cb (ea_cons (ed_is (ed_lcM 1 (fun _ => .bl true) (id_str (ed_var 0)) (blkOk_by (by kernel_rfl)) S_is_word.nd (fun s H C cl fp d hd => ?_) (by rw [signs_len]; omega)) (by rw [bl_true])) ea_nil) cld_all Z.f_all) (by rw [map_true])
      obtain ⟨c, hc, rfl⟩ := signs_mem hd
      exact ed_is (ed_cmp (ed_var 1) (ed_gs Z.c_LETTERS) (opd_inc lets_eq)) (by rw [decide_eq_true (h c hc)])
end
end AP
end
/-! AP2 -/
section
set_option Elab.async false
set_option linter.all false
set_option maxRecDepth 100000
set_option maxHeartbeats 4000000
namespace AP
open PySem PySem.Spec PyProof.Rows L2 AL AZ
section
variable {P : Program} {w : World} {K : PySem.W.Frag} {mg : Str → Option Value} {base : Heap}
inductive RSign : List Dt → Dt → Prop
  | mk (c : Nat) (h : sign c) : RSign [ts [c]] (.bl true)
theorem p_is_sign (Z : Zc K mg) : FnP P w K mg base 1 "is_sign" RSign 1 [] :=
  Z.mk_is_sign fun cdv A outer s H E ds d hr h => by
    cases h with
    | mk c h =>
    refine sds_ret (ed_and (k := true) (k' := true) (ed_cb (ea_cons (ed_var 0) (ea_cons (ed_gt (n := "str") Z.f_str) ea_nil)) (cld_isi rfl rfl) Z.f_isinstance) fun _ => ed_and (k := true) (k' := true) (ed_cmp (ed_cb (ea_cons (ed_var 0) ea_nil) (cld_lens (by show 1 ≤ 200000; decide)) Z.f_len) ed_int (opd_b opd_eq rfl)) fun _ => ed_one ?_) rfl
    refine ed_is (ed_or (k := decide ([c] = [32])) (k' := decide (c ∈ letters)) (ed_cmp (ed_var 0) (ed_gs Z.c_BLANK) opd_eqs) fun _ => ed_one (ed_cmp (ed_var 0) (ed_gs Z.c_LETTERS) (opd_inc lets_eq))) ?_
    rcases h with h | h
    · rw [decide_eq_true h, Bool.or_true]
    · subst h
      rfl
inductive RText : List Dt → Dt → Prop
  | mk (l : List Nat) (h : ∀ c ∈ l, sign c) (hz : l.length ≤ 100000) : RText [ts l] (.bl true)
theorem p_is_text (Z : Zc K mg) : FnP P w K mg base 1 "is_text" RText 1 [] :=
  Z.mk_is_text fun cdv A outer s H E ds d hr h => by
    cases h with
    | mk l h hz =>
    refine sds_ret (ed_and (k := true) (k' := true) (ed_cb (ea_cons (ed_var 0) (ea_cons (ed_gt (n := "str") Z.f_str) ea_nil)) (cld_isi rfl rfl) Z.f_isinstance) fun _ => ed_and (k := true) (k' := true) ?_ fun _ => ed_one ?_) rfl
    · exact ed_cmp (ed_cb (ea_cons (ed_var 0) ea_nil) (cld_lens (by omega)) Z.f_len) (ed_gi Z.c_MOST_SIGNS) (opd_b opd_le (decide_eq_true (by omega)))
    · refine ed_is (ed_cb (ea_cons (ed_is (ed_lcM 1 (fun _ => .bl true) (id_str (ed_var 0)) (blkOk_by (by kernel_rfl)) S_is_text.nd (fun s H C cl fp d hd => ?_) (by rw [signs_len]; exact hz)) (by rw [bl_true])) ea_nil) cld_all Z.f_all) (by rw [map_true])
      obtain ⟨c, hc, rfl⟩ := signs_mem hd
      refine ed_cmp (ed_var 1) (ed_gs Z.c_SIGNS) (opd_b (opd_inc signs_eq) (decide_eq_true ?_))
      rcases h c hc with h | h
      · exact List.mem_append_left _ h
      · subst h
        exact List.mem_append_right _ (List.mem_cons_self ..)
inductive RNeedN : List Dt → Dt → Prop
  | mk (n lo hi : Int) (z : Str) (h1 : lo ≤ n) (h2 : n ≤ hi) : RNeedN [.int n, .str z, .int lo, .int hi] .non
theorem p_need_number (Z : Zc K mg) : FnP P w K mg base 3 "need_number" RNeedN 4 [] :=
  Z.mk_need_number fun cdv A outer s H E ds d hr h => by
    cases h with
    | mk n lo hi z h1 h2 =>
    refine sds_ifF (et_is (et_not (et_val (ed_call (p_is_within Z) hr (ea_cons (ed_var 0) (ea_cons (ed_var 2) (ea_cons (ed_var 3) ea_nil))) (.i n lo hi)))) (by simp [h1, h2])) (sds_nil rfl)
inductive RNeedT : List Dt → Dt → Prop
  | mk (l : List Nat) (z : Str) (h : ∀ c ∈ l, sign c) (hz : l.length ≤ 100000) : RNeedT [ts l, .str z] .non
theorem p_need_text (Z : Zc K mg) : FnP P w K mg base 2 "need_text" RNeedT 2 [.str "text"] :=
  Z.mk_need_text fun cdv A outer s H E ds d hr h => by
    cases h with
    | mk l z h hz =>
    exact sds_ifF (et_not (k := true) (et_val (ed_call (p_is_text Z) hr (ea_cons (ed_var 0) ea_nil) (.mk l h hz)))) (sds_nil rfl)
end
/-! ### edits -/
inductive Ed where
  | put (a c : Nat)
  | lost (a : Nat)
  | chg (a c : Nat)
def Ed.dt : Ed → Dt
  | .put a c => .tup [.str "put", .int a, ts [c]]
  | .lost a => .tup [.str "lost", .int a]
  | .chg a c => .tup [.str "changed", .int a, ts [c]]
def doneE (l : List Nat) : Ed → List Nat
  | .put a c => (l.take a ++ [c]) ++ l.drop a
  | .lost a => (l.take a ++ []) ++ l.drop (a + 1)
  | .chg a c => (l.take a ++ [c]) ++ l.drop (a + 1)
def canE (l : List Nat) : Ed → Prop
  | .put a c => a ≤ l.length ∧ sign c
  | .lost a => a < l.length
  | .chg a c => a < l.length ∧ l[a]? ≠ some c ∧ sign c
def runE (l : List Nat) (es : List Ed) : List Nat := es.foldl doneE l
def chainE : List Nat → List Ed → Prop
  | _, [] => True
  | l, e :: es => canE l e ∧ l.length ≤ 90000 ∧ chainE (doneE l e) es
theorem chain_at : ∀ {es : List Ed} {l : List Nat} {i : Nat} {e : Ed}, chainE l es → es[i]? = some e → canE (runE l (es.take i)) e ∧ (runE l (es.take i)).length ≤ 90000
  | e :: es, l, 0, _, h, q => by
    cases q
    exact ⟨h.1, h.2.1⟩
  | e :: es, l, i + 1, e', h, q => chain_at (es := es) (l := doneE l e) h.2.2 q
theorem run_succ {es : List Ed} {l : List Nat} {i : Nat} {e : Ed} (q : es[i]? = some e) : runE l (es.take (i + 1)) = doneE (runE l (es.take i)) e := by
  rw [List.take_succ, q]
  simp [runE, List.foldl_append]
def Ed.ok : Ed → Prop
  | .put _ c => sign c
  | .lost _ => True
  | .chg _ c => sign c
theorem canE.ok {l : List Nat} {e : Ed} (h : canE l e) : e.ok := by
  cases e with
  | put a c => exact h.2
  | lost a => trivial
  | chg a c => exact h.2.2
section
variable {P : Program} {w : World} {K : PySem.W.Frag} {mg : Str → Option Value} {base : Heap}
inductive RIsEdit : List Dt → Dt → Prop
  | mk (e : Ed) (h : e.ok) : RIsEdit [e.dt] (.bl true)
theorem p_is_edit (Z : Zc K mg) : FnP P w K mg base 3 "is_edit" RIsEdit 1 [] :=
  Z.mk_is_edit fun cdv A outer s H E ds d hr h => by
    cases h with
    | mk e h =>
    have key : ∀ (z : Str) (a c : Nat), z ∈ [("put" : Str), "changed"] → sign c → SDs (cxOf CX0 P w K mg base N_is_edit "is_edit" (defScope s_is_edit) (He.fAd K ("is_edit", none)) cdv A outer s H E).nox [] (argsD N_is_edit [.tup [.str z, .int a, ts [c]]]) (defBody s_is_edit) { rt := fun d' _ => d' = .bl true, nx := fun _ => Dt.bl true = .non } := fun z a c hz hc => by
      refine sds_ifF (et_w (ew_or (k := false) (k' := false) (et_not (k := true) (et_val (ed_cb (ea_cons (ed_var 0) (ea_cons (ed_tup (ea_cons (ed_gt (n := "list") Z.f_list) (ea_cons (ed_gt (n := "tuple") Z.f_tuple) ea_nil))) ea_nil)) (cld_isLT rfl rfl) Z.f_isinstance))) fun _ => ew_or (k := false) (k' := false) (et_not (k := true) (et_chain (k := true) (k' := true) ed_int (ed_cb (ea_cons (ed_var 0) ea_nil) cld_lenT Z.f_len) ed_int (opd_b opd_le rfl) (opd_b opd_le rfl))) fun _ => ew_or1 (et_not (k := true) (et_val (ed_cb (ea_cons (ed_ixT (ed_var 0) ed_int rfl) (ea_cons (ed_gt (n := "str") Z.f_str) ea_nil)) (cld_isi rfl rfl) Z.f_isinstance))))) ?_
      refine sds_ifF (et_is (et_not (et_val (ed_call (p_is_within Z) hr (ea_cons (ed_ixT (ed_var 0) ed_int rfl) (ea_cons ed_int (ea_cons ed_non ea_nil))) (.o _ _)))) (by simp)) ?_
      refine sds_ret (ed_ifF (et_cmp (ed_cb (ea_cons (ed_var 0) ea_nil) cld_lenT Z.f_len) ed_int (opd_b opd_eq rfl)) (ed_and (k := true) (k' := true) (ed_cmp (ed_ixT (ed_var 0) ed_int rfl) (ed_tup (ea_cons (ed_gs Z.c_PUT) (ea_cons (ed_gs Z.c_CHANGED) ea_nil))) (opd_b (opd_inST (xs := ["put", "changed"])) (decide_eq_true hz))) fun _ => ed_one (ed_call (p_is_sign Z) hr (ea_cons (ed_ixT (ed_var 0) ed_int rfl) ea_nil) (.mk c hc)))) rfl
    cases e with
    | lost a =>
      have v0 : ED (cxOf CX0 P w K mg base N_is_edit "is_edit" (defScope s_is_edit) (He.fAd K ("is_edit", none)) cdv A outer s H E).nox (argsD N_is_edit [(Ed.lost a).dt]) (.Name "value" ⟨0,0,0,0⟩) (.tup [.str "lost", .int a]) := ed_var 0
      refine sds_ifF (et_w (ew_or (k := false) (k' := false) (et_not (k := true) (et_val (ed_cb (ea_cons (ed_var (d := .tup [.str "lost", .int a]) 0) (ea_cons (ed_tup (ea_cons (ed_gt (n := "list") Z.f_list) (ea_cons (ed_gt (n := "tuple") Z.f_tuple) ea_nil))) ea_nil)) (cld_isLT rfl rfl) Z.f_isinstance))) fun _ => ew_or (k := false) (k' := false) (et_not (k := true) (et_chain (k := true) (k' := true) ed_int (ed_cb (ea_cons (ed_var (d := .tup [.str "lost", .int a]) 0) ea_nil) cld_lenT Z.f_len) ed_int (opd_b opd_le rfl) (opd_b opd_le rfl))) fun _ => ew_or1 (et_not (k := true) (et_val (ed_cb (ea_cons (ed_ixT (ed_var (d := .tup [.str "lost", .int a]) 0) ed_int rfl) (ea_cons (ed_gt (n := "str") Z.f_str) ea_nil)) (cld_isi rfl rfl) Z.f_isinstance))))) ?_
      refine sds_ifF (et_is (et_not (et_val (ed_call (p_is_within Z) hr (ea_cons (ed_ixT (ed_var (d := .tup [.str "lost", .int a]) 0) ed_int rfl) (ea_cons ed_int (ea_cons ed_non ea_nil))) (.o _ _)))) (by simp)) ?_
      exact sds_ret (ed_ifT (et_cmp (ed_cb (ea_cons (ed_var (d := .tup [.str "lost", .int a]) 0) ea_nil) cld_lenT Z.f_len) ed_int (opd_b opd_eq rfl)) (ed_cmp (ed_ixT (ed_var (d := .tup [.str "lost", .int a]) 0) ed_int rfl) (ed_gs Z.c_LOST) (opd_b opd_eqS (by decide)))) rfl
    | put a c => exact key "put" a c (by decide) h
    | chg a c => exact key "changed" a c (by decide) h
theorem p_can_be_done (Z : Zc K mg) : FnP P w K mg base 1 "can_be_done" (fun ds d => ∃ l e, canE l e ∧ l.length ≤ 90000 ∧ ds = [ts l, e.dt] ∧ d = .bl true) 2 [] :=
  Z.mk_can_be_done fun cdv A outer s H E ds d hr ⟨l, e, hc, hz, e1, e2⟩ => by
    subst e1 e2
    cases e with
    | put a c =>
      have h1 : a ≤ l.length := hc.1
      refine sds_ifT (et_cmp (ed_ixT (d := .str "put") (ed_var (d := .tup [.str "put", .int a, ts [c]]) 1) ed_int rfl) (ed_gs Z.c_PUT) (opd_b opd_eqS (by decide))) ?_
      exact sds_ret (ed_chain (k := true) (k' := true) (ed_ixT (ed_var (d := .tup [.str "put", .int a, ts [c]]) 1) ed_int rfl) (ed_cb (ea_cons (ed_var 0) ea_nil) (cld_lens (by omega)) Z.f_len) (ed_gi Z.c_MOST_SIGNS) (opd_b opd_le (decide_eq_true (by omega))) (opd_b opd_lt (decide_eq_true (by omega)))) rfl
    | lost a =>
      have h1 : a < l.length := hc
      refine sds_ifF (et_cmp (ed_ixT (d := .str "lost") (ed_var (d := .tup [.str "lost", .int a]) 1) ed_int rfl) (ed_gs Z.c_PUT) (opd_b opd_eqS (by decide))) ?_
      exact sds_ret (ed_and (k := true) (k' := true) (ed_cmp (ed_ixT (ed_var (d := .tup [.str "lost", .int a]) 1) ed_int rfl) (ed_cb (ea_cons (ed_var 0) ea_nil) (cld_lens (by omega)) Z.f_len) (opd_b opd_lt (decide_eq_true (by omega)))) fun _ => ed_one (ed_or (k := true) (k' := true) (ed_cmp (ed_ixT (ed_var (d := .tup [.str "lost", .int a]) 1) ed_int rfl) (ed_gs Z.c_LOST) (opd_b opd_eqS (by decide))) fun z => nomatch z)) rfl
    | chg a c =>
      have h1 : a < l.length := hc.1
      have h2 : l[a]? = some l[a] := List.getElem?_eq_getElem h1
      have h3 : l[a] ≠ c := fun z => hc.2.1 (by rw [h2, z])
      refine sds_ifF (et_cmp (ed_ixT (d := .str "changed") (ed_var (d := .tup [.str "changed", .int a, ts [c]]) 1) ed_int rfl) (ed_gs Z.c_PUT) (opd_b opd_eqS (by decide))) ?_
      exact sds_ret (ed_and (k := true) (k' := true) (ed_cmp (ed_ixT (ed_var (d := .tup [.str "changed", .int a, ts [c]]) 1) ed_int rfl) (ed_cb (ea_cons (ed_var 0) ea_nil) (cld_lens (by omega)) Z.f_len) (opd_b opd_lt (decide_eq_true (by omega)))) fun _ => ed_one (ed_or (k := false) (k' := true) (ed_cmp (ed_ixT (ed_var (d := .tup [.str "changed", .int a, ts [c]]) 1) ed_int rfl) (ed_gs Z.c_LOST) (opd_b opd_eqS (by decide))) fun _ => ed_one (ed_cmp (ed_at (ed_var 0) (ed_ixT (d := .int a) (ed_var (d := .tup [.str "changed", .int a, ts [c]]) 1) ed_int rfl) h2 (by omega)) (ed_ixT (ed_var (d := .tup [.str "changed", .int a, ts [c]]) 1) ed_int rfl) (opd_b opd_nes (by simp [h3]))))) rfl
theorem p_done (Z : Zc K mg) : FnP P w K mg base 1 "done" (fun ds d => ∃ l e, canE l e ∧ l.length ≤ 90000 ∧ ds = [ts l, e.dt] ∧ d = ts (doneE l e)) 2 [] :=
  Z.mk_done fun cdv A outer s H E ds d hr ⟨l, e, hc, hz, e1, e2⟩ => by
    subst e1 e2
    cases e with
    | put a c =>
      have h1 : a ≤ l.length := hc.1
      refine sds_set 2 (ed_ixT (d := .int a) (ed_var (d := .tup [.str "put", .int a, ts [c]]) 1) ed_int rfl) ?_ S_done.nd
      refine sds_ifT (et_cmp (ed_ixT (d := .str "put") (ed_var (d := .tup [.str "put", .int a, ts [c]]) 1) ed_int rfl) (ed_gs Z.c_PUT) (opd_b opd_eqS (by decide))) ?_
      refine sds_ret (ed_op (ed_op (ed_to (ed_var 0) (ed_var 2) (by omega)) (ed_ixT (d := ts [c]) (ed_var (d := .tup [.str "put", .int a, ts [c]]) 1) ed_int rfl) (opd_cats (by simp; omega))) (ed_from (ed_var 0) (ed_var 2) (by omega)) (opd_cats (by simp; omega))) rfl
    | lost a =>
      have h1 : a < l.length := hc
      refine sds_set 2 (ed_ixT (d := .int a) (ed_var (d := .tup [.str "lost", .int a]) 1) ed_int rfl) ?_ S_done.nd
      refine sds_ifF (et_cmp (ed_ixT (d := .str "lost") (ed_var (d := .tup [.str "lost", .int a]) 1) ed_int rfl) (ed_gs Z.c_PUT) (opd_b opd_eqS (by decide))) ?_
      refine sds_ret (ed_op (ed_op (ed_to (ed_var 0) (ed_var 2) (by omega)) (ed_ifT (et_cmp (ed_ixT (d := .str "lost") (ed_var (d := .tup [.str "lost", .int a]) 1) ed_int rfl) (ed_gs Z.c_LOST) (opd_b opd_eqS (by decide))) (ed_is ed_str (show Dt.str _ = ts [] from rfl))) (opd_cats (by simp; omega))) (ed_from (n := a + 1) (ed_var 0) (ed_op (ed_var 2) ed_int opd_add) (by omega)) (opd_cats (by simp; omega))) rfl
    | chg a c =>
      have h1 : a < l.length := hc.1
      refine sds_set 2 (ed_ixT (d := .int a) (ed_var (d := .tup [.str "changed", .int a, ts [c]]) 1) ed_int rfl) ?_ S_done.nd
      refine sds_ifF (et_cmp (ed_ixT (d := .str "changed") (ed_var (d := .tup [.str "changed", .int a, ts [c]]) 1) ed_int rfl) (ed_gs Z.c_PUT) (opd_b opd_eqS (by decide))) ?_
      refine sds_ret (ed_op (ed_op (ed_to (ed_var 0) (ed_var 2) (by omega)) (ed_ifF (et_cmp (ed_ixT (d := .str "changed") (ed_var (d := .tup [.str "changed", .int a, ts [c]]) 1) ed_int rfl) (ed_gs Z.c_LOST) (opd_b opd_eqS (by decide))) (ed_ixT (d := ts [c]) (ed_var (d := .tup [.str "changed", .int a, ts [c]]) 1) ed_int rfl)) (opd_cats (by simp; omega))) (ed_from (n := a + 1) (ed_var 0) (ed_op (ed_var 2) ed_int opd_add) (by omega)) (opd_cats (by simp; omega))) rfl
/-- a list of edits -/
abbrev eds (es : List Ed) : Dt := .lst (es.map Ed.dt)
inductive RBehind : List Dt → Dt → Prop
  | mk (l : List Nat) (es : List Ed) (h : chainE l es) : RBehind [ts l, eds es] (ts (runE l es))
theorem p_behind (Z : Zc K mg) : FnP P w K mg base 4 "behind" RBehind 2 [] :=
  Z.mk_behind fun cdv A outer s H E ds d hr h => by
    cases h with
    | mk l es h =>
    refine sds_ifF (et_not (k := true) (et_val (ed_cb (ea_cons (ed_var 1) (ea_cons (ed_tup (ea_cons (ed_gt (n := "list") Z.f_list) (ea_cons (ed_gt (n := "tuple") Z.f_tuple) ea_nil))) ea_nil)) (cld_isLT rfl rfl) Z.f_isinstance))) ?_
    refine sds_cons (M := fun δ' => ∃ o, δ' = [some (.sh (ts (runE l es))), some (.sh (eds es)), o]) (sd_for (vs := [2]) (δt := fun i δ' => δ'.set 2 (some (.sh ((es.map Ed.dt).getD i .non)))) (fun i δ' => ∃ o, δ' = [some (.sh (ts (runE l (es.take i)))), some (.sh (eds es)), o]) (id_list (ed_var 1)) ⟨none, rfl⟩ ?_ ?_ ?_) ?_
    · rintro i d δ' hd ⟨o, rfl⟩
      rw [getD_of hd]
      exact gd_name 2 S_behind.nd
    · rintro i d δ' hd ⟨o, rfl⟩
      rw [getD_of hd]
      rw [List.getElem?_map] at hd
      obtain ⟨e, he, rfl⟩ := Option.map_eq_some_iff.mp hd
      obtain ⟨hc, hz⟩ := chain_at h he
      refine sds_ifF (et_w (ew_or (k := false) (k' := false) (et_not (k := true) (et_val (ed_call (p_is_edit Z) hr (ea_cons (ed_var 2) ea_nil) (.mk e hc.ok)))) fun _ => ew_or1 (et_not (k := true) (et_val (ed_call (p_can_be_done Z) hr (ea_cons (ed_var 0) (ea_cons (ed_var 2) ea_nil)) ⟨_, e, hc, hz, rfl, rfl⟩))))) ?_
      refine sds_set 0 (ed_call (p_done Z) hr (ea_cons (ed_var 0) (ea_cons (ed_var 2) ea_nil)) ⟨_, e, hc, hz, rfl, rfl⟩) (sds_nil ⟨some (.sh e.dt), ?_⟩) S_behind.nd
      rw [run_succ he]
      rfl
    · rintro δ' ⟨o, rfl⟩
      rw [List.length_map, List.take_length]
      exact ⟨o, rfl⟩
    · rintro δ' ⟨o, rfl⟩
      exact sds_ret (ed_var 0) rfl
theorem p_fits (Z : Zc K mg) : FnP P w K mg base 5 "fits" (fun ds d => ∃ l es, chainE l es ∧ es.length ≤ 12 ∧ ds = [ts l, eds es] ∧ d = .bl true) 2 [] :=
  Z.mk_fits fun cdv A outer s H E ds d hr ⟨l, es, h, hz, e1, e2⟩ => by
    subst e1 e2
    exact sds_ret (ed_and (k := true) (k' := true) (ed_cb (ea_cons (ed_var 1) (ea_cons (ed_tup (ea_cons (ed_gt (n := "list") Z.f_list) (ea_cons (ed_gt (n := "tuple") Z.f_tuple) ea_nil))) ea_nil)) (cld_isLT rfl rfl) Z.f_isinstance) fun _ => ed_and (k := true) (k' := true) (ed_cmp (ed_cb (ea_cons (ed_var 1) ea_nil) cld_lenL Z.f_len) (ed_gi Z.c_MOST_EDITS_edits) (opd_b opd_le (decide_eq_true (by simp; omega)))) fun _ => ed_one (ed_cmp (ed_call (p_behind Z) hr (ea_cons (ed_var 0) (ea_cons (ed_var 1) ea_nil)) (.mk l es h)) ed_non opd_notN)) rfl
theorem p_need_edits (Z : Zc K mg) : FnP P w K mg base 6 "need_edits" (fun ds d => ∃ l es, chainE l es ∧ es.length ≤ 12 ∧ (∀ c ∈ l, sign c) ∧ l.length ≤ 90000 ∧ ds = [ts l, eds es] ∧ d = .non) 2 [] :=
  Z.mk_need_edits fun cdv A outer s H E ds d hr ⟨l, es, h, hz, hs, hl, e1, e2⟩ => by
    subst e1 e2
    refine sds_drop (ed_call (p_need_text Z) hr (ea_cons (ed_var 0) ea_nil) (.mk l _ hs (by omega))) ?_
    exact sds_ifF (et_not (k := true) (et_val (ed_call (p_fits Z) hr (ea_cons (ed_var 0) (ea_cons (ed_var 1) ea_nil)) ⟨l, es, h, hz, rfl, rfl⟩))) (sds_nil rfl)
theorem p_damaged (Z : Zc K mg) : FnP P w K mg base 7 "damaged" (fun ds d => ∃ l es, chainE l es ∧ es.length ≤ 12 ∧ (∀ c ∈ l, sign c) ∧ l.length ≤ 90000 ∧ ds = [ts l, eds es] ∧ d = ts (runE l es)) 2 [] :=
  Z.mk_damaged fun cdv A outer s H E ds d hr ⟨l, es, h, hz, hs, hl, e1, e2⟩ => by
    subst e1 e2
    refine sds_drop (ed_call (p_need_edits Z) hr (ea_cons (ed_var 0) (ea_cons (ed_var 1) ea_nil)) ⟨l, es, h, hz, hs, hl, rfl, rfl⟩) ?_
    exact sds_ret (ed_call (p_behind Z) hr (ea_cons (ed_var 0) (ea_cons (ed_var 1) ea_nil)) (.mk l es h)) rfl
end
end AP
end
/-! AP3 -/
section
set_option Elab.async false
set_option linter.all false
set_option maxRecDepth 100000
set_option maxHeartbeats 4000000
namespace AP
open PySem PySem.Spec PyProof.Rows L2 AL AZ
/-! ### books, machines -/
def ntl (l : List Nat) : List Dt := l.map fun (n : Nat) => Dt.int (n : Int)
theorem ntl_eq (l : List Nat) : ntl l = (l.map fun (n : Nat) => (n : Int)).map Dt.int := by simp [ntl]
theorem ntl_len (l : List Nat) : (ntl l).length = l.length := by simp [ntl]
theorem ntl_get {l : List Nat} {i n : Nat} (h : l[i]? = some n) : (ntl l)[i]? = some (.int n) := by simp [ntl, h]
theorem ntl_mem {l : List Nat} {d : Dt} (h : d ∈ ntl l) : ∃ n ∈ l, d = .int n := by
  obtain ⟨n, h1, h2⟩ := List.mem_map.mp h
  exact ⟨n, h1, h2.symm⟩
def _root_.AL.Dt.n : Dt → Nat
  | .int i => i.toNat
  | _ => 0
def wordsD (ws : List (List Nat)) : List Dt := ws.map ts
theorem words_eq (ws : List (List Nat)) : wordsD ws = (ws.map mk).map Dt.str := by simp [wordsD]
def bookD (K : PySem.W.Frag) (ws : List (List Nat)) : Dt := .ins (He.ga K "Book") ["words"] [.tup (wordsD ws)]
def deedsD (ds : List (List Nat)) : List Dt := ds.map fun d => .tup (ntl d)
def machD (K : PySem.W.Frag) (ws ds : List (List Nat)) (n : Nat) : Dt := .ins (He.ga K "Machine") ["book", "deeds", "states"] [bookD K ws, .tup (deedsD ds), .int n]
structure BOk (ws : List (List Nat)) : Prop where
  lt : ∀ w ∈ ws, ∀ c ∈ w, c ∈ letters
  ge : ∀ w ∈ ws, 1 ≤ w.length
  le : ∀ w ∈ ws, w.length ≤ 12
  nd : ws.Nodup
  n1 : 1 ≤ ws.length
  n2 : ws.length ≤ 40
structure MOk (ds : List (List Nat)) (n : Nat) : Prop where
  len : ∀ d ∈ ds, d.length = n
  lt : ∀ d ∈ ds, ∀ x ∈ d, x < n
  n1 : 1 ≤ n
  n2 : n ≤ 40
def endM (ds : List (List Nat)) (r : List Nat) (s : Nat) : Nat := r.foldl (fun s k => (ds.getD k []).getD s 0) s
theorem end_lt {ds : List (List Nat)} {n : Nat} (m : MOk ds n) : ∀ {r : List Nat} {s : Nat}, (∀ k ∈ r, k < ds.length) → s < n → endM ds r s < n
  | [], s, _, h => h
  | k :: r, s, hk, h => by
    have h1 : k < ds.length := hk k (List.mem_cons_self ..)
    have e1 : ds.getD k [] = ds[k] := by simp [List.getD_eq_getElem?_getD, h1]
    have hm : ds[k] ∈ ds := List.getElem_mem h1
    have h2 : s < ds[k].length := by rw [m.len _ hm]; exact h
    have e2 : ds[k].getD s 0 = ds[k][s] := by simp [List.getD_eq_getElem?_getD, h2]
    show endM ds r ((ds.getD k []).getD s 0) < n
    rw [e1, e2]
    exact end_lt m (fun j hj => hk j (List.mem_cons_of_mem _ hj)) (m.lt _ hm _ (List.getElem_mem h2))
theorem end_take {ds : List (List Nat)} {r : List Nat} {s i k : Nat} (h : r[i]? = some k) : endM ds (r.take (i + 1)) s = (ds.getD k []).getD (endM ds (r.take i) s) 0 := by
  rw [List.take_succ, h]
  simp [endM, List.foldl_append]
def textM (ws : List (List Nat)) (r cs : List Nat) : List Nat := TL.joinL [32] (r.flatMap fun k => List.replicate (cs.getD k 0) (ws.getD k []))
section
variable {X : Cx} {δ : De} {a e b : Expr} {l : List Nat} {pos : Pos}
theorem ed_at_int {ds : List Dt} {i : Nat} {d : Dt} (ha : ED X δ a (.tup ds)) (hb : ED X δ b (.int (i : Int))) (h : ds[i]? = some d) (hs : PlainIx b := by exact fun _ _ => rfl) : ED X δ (.Subscript a b pos) d := ed_ixT ha hb (by rw [atI_nat]; exact h) hs
theorem ed_at_intL {ds : List Dt} {i : Nat} {d : Dt} (ha : ED X δ a (.lst ds)) (hb : ED X δ b (.int (i : Int))) (h : ds[i]? = some d) (hs : PlainIx b := by exact fun _ _ => rfl) : ED X δ (.Subscript a b pos) d := ed_ixL ha hb (by rw [atI_nat]; exact h) hs
end
section
variable {P : Program} {w : World} {K : PySem.W.Frag} {mg : Str → Option Value} {base : Heap}
theorem p_need_book (Z : Zc K mg) : FnP P w K mg base 1 "need_book" (fun ds d => ∃ ws z, ds = [bookD K ws, .str z] ∧ d = .non) 2 [.str "book"] :=
  Z.mk_need_book fun cdv A outer s H E ds d hr ⟨ws, z, e1, e2⟩ => by
    subst e1 e2
    exact sds_ifF (et_not (k := true) (et_val (ed_cb (ea_cons (ed_var 0) (ea_cons (ed_ga Z.g_Book) ea_nil)) (cld_isC Z.in_Book Z.kit_Book_Book) Z.f_isinstance))) (sds_nil rfl)
theorem p_need_machine (Z : Zc K mg) : FnP P w K mg base 1 "need_machine" (fun ds d => ∃ ws t n, ds = [machD K ws t n] ∧ d = .non) 1 [] :=
  Z.mk_need_machine fun cdv A outer s H E ds d hr ⟨ws, t, n, e1, e2⟩ => by
    subst e1 e2
    exact sds_ifF (et_not (k := true) (et_val (ed_cb (ea_cons (ed_var 0) (ea_cons (ed_ga Z.g_Machine) ea_nil)) (cld_isC Z.in_Machine Z.kit_Machine_Machine) Z.f_isinstance))) (sds_nil rfl)
theorem are_ntl {l : List Nat} {n : Nat} (h : ∀ k ∈ l, k ≤ n) (hz : l.length ≤ 100000) : RAre [.lst (ntl l), .int 0, .int n] (.bl true) := by
  rw [ntl_eq]
  refine .mk _ 0 n (fun k hk => ?_) (by simpa using hz)
  obtain ⟨j, hj, rfl⟩ := List.mem_map.mp hk
  have := h j hj
  omega
/-- book.words, machine.book, .deeds, .states -/
theorem ed_words {X : Cx} {δ : De} {a : Expr} {ws : List (List Nat)} {pos : Pos} (Z : Zc X.K X.mg) (ha : ED X δ a (bookD X.K ws)) (hb : attributeBase a "words" X.env (eval a X.env) = eval a X.env := by rfl) : ED X δ (.Attribute a "words" pos) (.tup (wordsD ws)) := ed_fld ha Z.cls_Book Z.na_Book_words rfl hb
theorem ed_book {X : Cx} {δ : De} {a : Expr} {ws t : List (List Nat)} {n : Nat} {pos : Pos} (Z : Zc X.K X.mg) (ha : ED X δ a (machD X.K ws t n)) (hb : attributeBase a "book" X.env (eval a X.env) = eval a X.env := by rfl) : ED X δ (.Attribute a "book" pos) (bookD X.K ws) := ed_fld ha Z.cls_Machine Z.na_Machine_book rfl hb
theorem ed_deeds {X : Cx} {δ : De} {a : Expr} {ws t : List (List Nat)} {n : Nat} {pos : Pos} (Z : Zc X.K X.mg) (ha : ED X δ a (machD X.K ws t n)) (hb : attributeBase a "deeds" X.env (eval a X.env) = eval a X.env := by rfl) : ED X δ (.Attribute a "deeds" pos) (.tup (deedsD t)) := ed_fld ha Z.cls_Machine Z.na_Machine_deeds rfl hb
theorem ed_states {X : Cx} {δ : De} {a : Expr} {ws t : List (List Nat)} {n : Nat} {pos : Pos} (Z : Zc X.K X.mg) (ha : ED X δ a (machD X.K ws t n)) (hb : attributeBase a "states" X.env (eval a X.env) = eval a X.env := by rfl) : ED X δ (.Attribute a "states" pos) (.int n) := ed_fld ha Z.cls_Machine Z.na_Machine_states rfl hb
theorem p_need_row (Z : Zc K mg) : FnP P w K mg base 4 "need_row" (fun ds d => ∃ (ws : List (List Nat)) (r : List Nat) (z : Str), 1 ≤ ws.length ∧ (∀ k ∈ r, k < ws.length) ∧ r.length ≤ 10000 ∧ ds = [bookD K ws, .lst (ntl r), .str z] ∧ d = .tup (ntl r)) 3 [.str "row"] :=
  Z.mk_need_row fun cdv A outer s H E ds d hr ⟨ws, r, z, h0, h1, h2, e1, e2⟩ => by
    subst e1 e2
    refine sds_ifF (et_w (ew_or (k := false) (k' := false) (et_not (k := true) (et_val (ed_call (p_are_within Z) hr (ea_cons (ed_var 1) (ea_cons ed_int (ea_cons (ed_is (ed_op (ed_cb (ea_cons (ed_words Z (ed_var 0)) ea_nil) cld_lenT Z.f_len) ed_int opd_sub) (show _ = Dt.int ((ws.length - 1 : Nat) : Int) by simp [wordsD]; omega)) ea_nil))) (are_ntl (fun k hk => by have := h1 k hk; omega) (by omega))))) fun _ => ew_or1 (et_cmp (ed_cb (ea_cons (ed_var 1) ea_nil) cld_lenL Z.f_len) (ed_gi Z.c_MOST_NUMBERS) (opd_b opd_gt (decide_eq_false (by rw [ntl_len]; omega)))))) ?_
    exact sds_ret (ed_ct (ea_cons (ed_var 1) ea_nil) cld_tupL Z.f_tuple) rfl
theorem p_need_copies (Z : Zc K mg) : FnP P w K mg base 4 "need_copies" (fun ds d => ∃ (ws : List (List Nat)) (c : List Nat), c.length = ws.length ∧ (∀ k ∈ c, k ≤ 12) ∧ c.length ≤ 100 ∧ ds = [bookD K ws, .lst (ntl c)] ∧ d = .tup (ntl c)) 2 [] :=
  Z.mk_need_copies fun cdv A outer s H E ds d hr ⟨ws, c, h0, h1, h2, e1, e2⟩ => by
    subst e1 e2
    refine sds_ifF (et_val (ed_call (p_is_within Z) hr (ea_cons (ed_var 1) (ea_cons ed_int (ea_cons (ed_gi Z.c_MOST_COPIES_books) ea_nil))) (.l _ _ _))) ?_
    refine sds_ifF (et_w (ew_or (k := false) (k' := false) (et_not (k := true) (et_val (ed_call (p_are_within Z) hr (ea_cons (ed_var 1) (ea_cons ed_int (ea_cons (ed_gi Z.c_MOST_COPIES_books) ea_nil))) (are_ntl (n := 12) h1 (by omega))))) fun _ => ew_or1 (et_cmp (ed_cb (ea_cons (ed_var 1) ea_nil) cld_lenL Z.f_len) (ed_cb (ea_cons (ed_words Z (ed_var 0)) ea_nil) cld_lenT Z.f_len) (opd_b opd_ne (by simp [ntl, wordsD, h0]))))) ?_
    exact sds_ret (ed_ct (ea_cons (ed_var 1) ea_nil) cld_tupL Z.f_tuple) rfl
theorem p_end_of (Z : Zc K mg) : FnP P w K mg base 1 "end_of" (fun ds d => ∃ (ws t : List (List Nat)) (n : Nat) (r : List Nat) (st : Nat), MOk t n ∧ (∀ k ∈ r, k < t.length) ∧ st < n ∧ ds = [machD K ws t n, .tup (ntl r), .int st] ∧ d = .int (endM t r st)) 3 [] :=
  Z.mk_end_of fun cdv A outer s H E ds d hr ⟨ws, t, n, r, st, hm, h1, h2, e1, e2⟩ => by
    subst e1 e2
    refine sds_cons (M := fun δ' => ∃ o, δ' = [some (.sh (machD K ws t n)), some (.sh (.tup (ntl r))), some (.sh (.int (endM t r st))), o]) (sd_for (vs := [3]) (δt := fun i δ' => δ'.set 3 (some (.sh ((ntl r).getD i .non)))) (fun i δ' => ∃ o, δ' = [some (.sh (machD K ws t n)), some (.sh (.tup (ntl r))), some (.sh (.int (endM t (r.take i) st))), o]) (id_tup (ed_var 1)) ⟨none, rfl⟩ ?_ ?_ ?_) ?_
    · rintro i d δ' hd ⟨o, rfl⟩
      rw [getD_of hd]
      exact gd_name 3 S_end_of.nd
    · rintro i d δ' hd ⟨o, rfl⟩
      rw [getD_of hd]
      unfold ntl at hd
      rw [List.getElem?_map] at hd
      obtain ⟨k, hk, rfl⟩ := Option.map_eq_some_iff.mp hd
      have hkl : k < t.length := h1 k (List.mem_of_getElem? hk)
      have hmm : t[k] ∈ t := List.getElem_mem hkl
      have hlt := end_lt hm (r := r.take i) (fun j hj => h1 j (List.mem_of_mem_take hj)) h2
      have hz : (deedsD t)[k]? = some (.tup (ntl t[k])) := by simp [deedsD, hkl]
      have hy : endM t (r.take i) st < t[k].length := by rw [hm.len _ hmm]; exact hlt
      refine sds_set 2 (ed_at_int (ed_at_int (ed_deeds Z (ed_var 0)) (ed_var 3) hz) (ed_var 2) (ntl_get (List.getElem?_eq_getElem hy))) (sds_nil ⟨some (.sh (.int k)), ?_⟩) S_end_of.nd
      rw [end_take hk]
      simp [List.getD_eq_getElem?_getD, hkl, hy]
    · rintro δ' ⟨o, rfl⟩
      rw [ntl_len, List.take_length]
      exact ⟨o, rfl⟩
    · rintro δ' ⟨o, rfl⟩
      exact sds_ret (ed_var 2) rfl
end
end AP
end
/-! AP4 -/
section
set_option Elab.async false
set_option linter.all false
set_option maxRecDepth 100000
set_option maxHeartbeats 4000000
namespace AP
open PySem PySem.Spec PyProof.Rows L2 AL AZ
/-! ### == of lists and tuples of integers -/
theorem pys_ntl : ∀ l : List Nat, Dt.pys (ntl l) = some (l.map fun (n : Nat) => PyData.int (n : Int))
  | [] => rfl
  | n :: l => by
    show (match Dt.py (.int (n : Int)), Dt.pys (ntl l) with
      | some p, some ps => some (p :: ps)
      | _, _ => none) = _
    rw [pys_ntl l]
    rfl
theorem eqv_ntl : ∀ l m : List Nat, PyData.eqvAll (l.map fun (n : Nat) => PyData.int (n : Int)) (m.map fun (n : Nat) => PyData.int (n : Int)) = decide (l = m)
  | [], [] => by simp [PyData.eqvAll]
  | [], _ :: _ => by simp [PyData.eqvAll]
  | _ :: _, [] => by simp [PyData.eqvAll]
  | n :: l, k :: m => by
    rw [List.map_cons, List.map_cons, PyData.eqvAll, eqv_ntl l m]
    simp only [PyData.eqv]
    by_cases h : n = k
    · subst h
      simp
    · simp [h]
      intro e
      omega
theorem lay_ntl : ∀ l : List Nat, PyData.canLayAll0 (l.map fun (n : Nat) => PyData.int (n : Int)) = true
  | [] => by simp [PyData.canLayAll0]
  | n :: l => by
    rw [List.map_cons, PyData.canLayAll0, lay_ntl l]
    simp [PyData.canLay0]
theorem dep_ntl : ∀ l : List Nat, PyData.depthAll (l.map fun (n : Nat) => PyData.int (n : Int)) = 0
  | [] => by simp [PyData.depthAll]
  | n :: l => by
    rw [List.map_cons, PyData.depthAll, dep_ntl l]
    simp [PyData.depth]
theorem shp_tup (l : List Nat) : SeqAt.shaped (.tuple (l.map fun (n : Nat) => PyData.int (n : Int))) = true := by
  unfold SeqAt.shaped
  simp [PyData.canLay0, PyData.depth, lay_ntl, dep_ntl]
theorem shp_lst (l : List Nat) : SeqAt.shaped (.list (l.map fun (n : Nat) => PyData.int (n : Int))) = true := by
  unfold SeqAt.shaped
  simp [PyData.canLay0, PyData.depth, lay_ntl, dep_ntl]
section
variable {X : Cx}
theorem opd_eqT {l m : List Nat} (hu : X.A.units + 64 < cLine) : OpD X (compareOp .Eq) (.tup (ntl l)) (.tup (ntl m)) (.bl (decide (l = m))) := by
  have q := opd_eqD (X := X) (da := .tup (ntl l)) (db := .tup (ntl m)) hu (by show (Dt.pys (ntl l)).map PyData.tuple = _; rw [pys_ntl]; rfl) (by show (Dt.pys (ntl m)).map PyData.tuple = _; rw [pys_ntl]; rfl) (shp_tup l) (shp_tup m)
  rw [show PyData.eqv (.tuple (l.map fun (n : Nat) => PyData.int (n : Int))) (.tuple (m.map fun (n : Nat) => PyData.int (n : Int))) = decide (l = m) from by simp only [PyData.eqv]; exact eqv_ntl l m] at q
  exact q
theorem opd_neL {l m : List Nat} (hu : X.A.units + 64 < cLine) : OpD X (compareOp .NotEq) (.lst (ntl l)) (.lst (ntl m)) (.bl (!decide (l = m))) := by
  have q := opd_neD (X := X) (da := .lst (ntl l)) (db := .lst (ntl m)) hu (by show (Dt.pys (ntl l)).map PyData.list = _; rw [pys_ntl]; rfl) (by show (Dt.pys (ntl m)).map PyData.list = _; rw [pys_ntl]; rfl) (shp_lst l) (shp_lst m)
  rw [show PyData.eqv (.list (l.map fun (n : Nat) => PyData.int (n : Int))) (.list (m.map fun (n : Nat) => PyData.int (n : Int))) = decide (l = m) from by simp only [PyData.eqv]; exact eqv_ntl l m] at q
  exact q
end
theorem rep_one (k m : Nat) : (List.replicate m [Dt.int (k : Int)]).flatten = ntl (List.replicate m k) := by
  induction m with
  | zero => rfl
  | succ m ih =>
    rw [List.replicate_succ, List.flatten_cons, ih]
    rfl
theorem range_nat (n : Nat) : rangeD 0 n = ntl (List.range n) := by
  unfold rangeD ntl
  apply List.map_congr_left
  intro i _
  show Dt.int (0 + (i : Int)) = _
  rw [Int.zero_add]
/-- what is asked of a number of times by which a deed settles -/
def SetAt (t : List (List Nat)) (n k m : Nat) : Prop := 1 ≤ m ∧ m ≤ n ∧ (∀ s, s < n → endM t (List.replicate m k) s = endM t (List.replicate (m + 1) k) s) ∧ ∀ j, 1 ≤ j → j < m → ∃ s, s < n ∧ endM t (List.replicate j k) s ≠ endM t (List.replicate (j + 1) k) s
section
variable {P : Program} {w : World} {K : PySem.W.Frag} {mg : Str → Option Value} {base : Heap}
def endsM (t : List (List Nat)) (n : Nat) (r : List Nat) : List Nat := (List.range n).map (endM t r)
theorem p_ends_of (Z : Zc K mg) : FnP P w K mg base 2 "ends_of" (fun ds d => ∃ (ws t : List (List Nat)) (n : Nat) (r : List Nat), MOk t n ∧ (∀ k ∈ r, k < t.length) ∧ ds = [machD K ws t n, .tup (ntl r)] ∧ d = .tup (ntl (endsM t n r))) 2 [] :=
  Z.mk_ends_of fun cdv A outer s H E ds d hr ⟨ws, t, n, r, hm, h1, e1, e2⟩ => by
    subst e1 e2
    have hn := hm.n2
    refine sds_ret (ed_ct (ea_cons (ed_is (ed_lcM 2 (fun d => .int (endM t r d.n)) (id_range1 (ea_cons (ed_states Z (ed_var 0)) ea_nil) (by omega) Z.f_range) (blkOk_by (by kernel_rfl)) S_ends_of.nd (fun s H C cl fp d hd => ?_) (by rw [rangeD_len]; show (n : Int).toNat ≤ 100000; omega)) (show _ = Dt.lst (ntl (endsM t n r)) from ?_)) ea_nil) cld_tupL Z.f_tuple) rfl
    · rw [show (n : Int).toNat = n from rfl, range_nat] at hd
      obtain ⟨j, hj, rfl⟩ := ntl_mem hd
      exact ed_call (p_end_of Z) hr (ea_cons (ed_var 0) (ea_cons (ed_var 1) (ea_cons (ed_var 2) ea_nil))) ⟨ws, t, n, r, j, hm, h1, List.mem_range.mp hj, rfl, rfl⟩
    · rw [show (n : Int).toNat = n from rfl, range_nat]
      unfold ntl endsM
      simp [Function.comp_def, Dt.n]
theorem ends_eq {t : List (List Nat)} {n : Nat} {r r' : List Nat} : (endsM t n r = endsM t n r') ↔ ∀ s, s < n → endM t r s = endM t r' s := by
  unfold endsM
  rw [List.map_inj_left]
  exact ⟨fun h s hs => h s (List.mem_range.mpr hs), fun h s hs => h s (List.mem_range.mp hs)⟩
theorem p_settling (Z : Zc K mg) : FnP P w K mg base 3 "settling" (fun ds d => ∃ (ws t : List (List Nat)) (n k m : Nat), MOk t n ∧ k < t.length ∧ SetAt t n k m ∧ ds = [machD K ws t n, .int k] ∧ d = .int m) 2 [] :=
  Z.mk_settling fun cdv A outer s H E ds d hr ⟨ws, t, n, k, m, hm, hk, hs, e1, e2⟩ => by
    subst e1 e2
    have hn := hm.n2
    obtain ⟨s1, s2, s3, s4⟩ := hs
    have hin : ∀ j, ∀ i ∈ List.replicate j k, i < t.length := fun j i hi => by
      rw [List.eq_of_mem_replicate hi]
      exact hk
    refine sds_cons (M := fun _ => False) (sd_for (vs := [2]) (δt := fun i δ' => δ'.set 2 (some (.sh ((rangeD 1 ((n : Int) + 1 - 1).toNat).getD i .non)))) (fun i δ' => i < m ∧ ∃ o, δ' = [some (.sh (machD K ws t n)), some (.sh (.int k)), o]) (id_range2 (ea_cons ed_int (ea_cons (ed_op (ed_states Z (ed_var 0)) ed_int opd_add) ea_nil)) (by omega) Z.f_range) ⟨by omega, none, rfl⟩ ?_ ?_ ?_) (fun _ z => z.elim)
    · rintro i d δ' hd ⟨_, o, rfl⟩
      rw [getD_of hd]
      exact gd_name 2 S_settling.nd
    · rintro i d δ' hd ⟨hi, o, rfl⟩
      rw [getD_of hd]
      have hil : i < ((n : Int) + 1 - 1).toNat := by
        rw [← rangeD_len 1 ((n : Int) + 1 - 1).toNat]
        exact (List.getElem?_eq_some_iff.mp hd).1
      rw [rangeD_get hil] at hd
      cases hd
      have e0 : ((1 : Int) + (i : Int)) = ((i + 1 : Nat) : Int) := by omega
      rw [e0]
      have r1 : OpD (cxOf CX0 P w K mg base N_settling "settling" (defScope s_settling) (He.fAd K ("settling", none)) cdv A outer s H E).nox (binaryOp .Mult) (.tup [.int (k : Int)]) (.int ((i + 1 : Nat) : Int)) (.tup (ntl (List.replicate (i + 1) k))) := by
        rw [← rep_one]
        exact opd_repT (by omega) (by omega) (by simp) (by simp)
      have r2 : OpD (cxOf CX0 P w K mg base N_settling "settling" (defScope s_settling) (He.fAd K ("settling", none)) cdv A outer s H E).nox (binaryOp .Mult) (.tup [.int (k : Int)]) (.int ((i + 1 : Nat) + 1 : Int)) (.tup (ntl (List.replicate (i + 1 + 1) k))) := by
        rw [← rep_one]
        exact opd_repT (k := i + 1 + 1) (by omega) (by omega) (by simp) (by simp)
      refine sds_ifR (et_cmp (ed_call (p_ends_of Z) hr (ea_cons (ed_var 0) (ea_cons (ed_op (ed_tup (ea_cons (ed_var 1) ea_nil)) (ed_var 2) r1) ea_nil)) ⟨ws, t, n, _, hm, hin (i + 1), rfl, rfl⟩) (ed_call (p_ends_of Z) hr (ea_cons (ed_var 0) (ea_cons (ed_op (ed_tup (ea_cons (ed_var 1) ea_nil)) (ed_op (ed_var 2) ed_int opd_add) r2) ea_nil)) ⟨ws, t, n, _, hm, hin (i + 1 + 1), rfl, rfl⟩) (opd_eqT hr.units)) (fun h => ?_) (fun h => ?_)
      · have h' := ends_eq.mp (of_decide_eq_true h)
        have e : i + 1 = m := by
          rcases Nat.lt_or_ge (i + 1) m with z | z
          · obtain ⟨q, q1, q2⟩ := s4 (i + 1) (by omega) z
            exact absurd (h' q q1) q2
          · omega
        subst e
        exact sds_ret (ed_var 2) rfl
      · have h' := of_decide_eq_false h
        refine sds_nil ⟨?_, some (.sh (.int ((i + 1 : Nat) : Int))), rfl⟩
        rcases Nat.lt_or_ge (i + 1) m with z | z
        · exact z
        · have e : i + 1 = m := by omega
          subst e
          exact absurd (ends_eq.mpr s3) h'
    · rintro δ' ⟨h, _⟩
      rw [rangeD_len] at h
      omega
theorem p_settles (Z : Zc K mg) : FnP P w K mg base 4 "settles" (fun ds d => ∃ (ws t : List (List Nat)) (n k m : Nat), MOk t n ∧ k < t.length ∧ SetAt t n k m ∧ ds = [machD K ws t n, .int k] ∧ d = .int m) 2 [] :=
  Z.mk_settles fun cdv A outer s H E ds d hr ⟨ws, t, n, k, m, hm, hk, hs, e1, e2⟩ => by
    subst e1 e2
    refine sds_drop (ed_call (p_need_machine Z) hr (ea_cons (ed_var 0) ea_nil) ⟨ws, t, n, rfl, rfl⟩) ?_
    refine sds_drop (ed_call (p_need_number Z) hr (ea_cons (ed_var 1) (ea_cons ed_str (ea_cons ed_int (ea_cons (ed_op (ed_cb (ea_cons (ed_deeds Z (ed_var 0)) ea_nil) cld_lenT Z.f_len) ed_int opd_sub) ea_nil)))) (.mk _ _ _ _ (by omega) (by simp [deedsD]; omega))) ?_
    exact sds_ret (ed_call (p_settling Z) hr (ea_cons (ed_var 0) (ea_cons (ed_var 1) ea_nil)) ⟨ws, t, n, k, m, hm, hk, hs, rfl, rfl⟩) rfl
end
end AP
end
/-! AP5 -/
section
set_option Elab.async false
set_option linter.all false
set_option maxRecDepth 100000
set_option maxHeartbeats 4000000
namespace AP
open PySem PySem.Spec PyProof.Rows L2 AL AZ
/-! ### texts of rows, rows of texts -/
def partsM (ws : List (List Nat)) (r cs : List Nat) : List (List Nat) := r.flatMap fun k => List.replicate (cs.getD k 0) (ws.getD k [])
theorem text_parts (ws : List (List Nat)) (r cs : List Nat) : textM ws r cs = TL.joinL [32] (partsM ws r cs) := rfl
theorem parts_flat (ws : List (List Nat)) (cs : List Nat) : ∀ r : List Nat, flatD (ntl r) (fun d => rangeD 0 (cs.getD d.n 0)) (fun d _ => ts (ws.getD d.n [])) = ((partsM ws r cs).map mk).map Dt.str
  | [] => rfl
  | k :: r => by
    have ih := parts_flat ws cs r
    unfold flatD partsM at ih ⊢
    unfold ntl at ih ⊢
    rw [List.map_cons, List.flatMap_cons, List.flatMap_cons, ih, List.map_append, List.map_append]
    refine congrArg (· ++ _) ?_
    show (rangeD 0 (cs.getD k 0)).map (fun _ => ts (ws.getD k [])) = _
    rw [List.map_map, List.map_replicate, List.map_const', rangeD_len]
    rfl
theorem parts_len {ws : List (List Nat)} {cs : List Nat} (h : ∀ k, cs.getD k 0 ≤ 12) : ∀ r : List Nat, (partsM ws r cs).length ≤ 12 * r.length
  | [] => by simp [partsM]
  | k :: r => by
    have ih := parts_len (ws := ws) h r
    have hk := h k
    unfold partsM at ih ⊢
    rw [List.flatMap_cons, List.length_append, List.length_replicate, List.length_cons]
    omega
theorem sum_le {l : List Nat} {b : Nat} (h : ∀ x ∈ l, x ≤ b) : l.sum ≤ l.length * b := by
  induction l with
  | nil => simp
  | cons a l ih =>
    have h1 := h a (List.mem_cons_self ..)
    have h2 := ih fun x hx => h x (List.mem_cons_of_mem _ hx)
    rw [List.sum_cons, List.length_cons, Nat.succ_mul]
    omega
theorem getD_le {l : List Nat} {b : Nat} (h : ∀ x ∈ l, x ≤ b) (k : Nat) : l.getD k 0 ≤ b := by
  rw [List.getD_eq_getElem?_getD]
  cases q : l[k]? with
  | none => simp
  | some x => exact h x (List.mem_of_getElem? q)
theorem parts_word {ws : List (List Nat)} {cs r : List Nat} {p : List Nat} (h : p ∈ partsM ws r cs) : ∃ k ∈ r, p = ws.getD k [] := by
  unfold partsM at h
  obtain ⟨k, hk, hp⟩ := List.mem_flatMap.mp h
  exact ⟨k, hk, List.eq_of_mem_replicate hp⟩
theorem word_len {ws : List (List Nat)} {b : Nat} (h : ∀ w ∈ ws, w.length ≤ b) (k : Nat) : (ws.getD k []).length ≤ b := by
  rw [List.getD_eq_getElem?_getD]
  cases q : ws[k]? with
  | none => simp
  | some x => exact h x (List.mem_of_getElem? q)
theorem sum_cast (f : Nat → Nat) : ∀ r : List Nat, (r.map fun k => ((f k : Nat) : Int)).sum = (((r.map f).sum : Nat) : Int)
  | [] => rfl
  | a :: r => by
    simp only [List.map_cons, List.sum_cons]
    rw [sum_cast f r, Int.natCast_add]
section
variable {P : Program} {w : World} {K : PySem.W.Frag} {mg : Str → Option Value} {base : Heap}
structure TOk (ws : List (List Nat)) (r cs : List Nat) : Prop where
  w12 : ∀ w ∈ ws, w.length ≤ 12
  c12 : ∀ c ∈ cs, c ≤ 12
  lr : ∀ k ∈ r, k < ws.length
  lc : cs.length = ws.length
  n : r.length ≤ 1000
theorem p_text_in (Z : Zc K mg) : FnP P w K mg base 1 "text_in" (fun ds d => ∃ (ws : List (List Nat)) (r cs : List Nat), TOk ws r cs ∧ ds = [bookD K ws, .tup (ntl r), .tup (ntl cs)] ∧ d = ts (textM ws r cs)) 3 [] :=
  Z.mk_text_in fun cdv A outer s H E ds d hr ⟨ws, r, cs, ok, e1, e2⟩ => by
    subst e1 e2
    have hl : (partsM ws r cs).length ≤ 12000 := by
      have := parts_len (ws := ws) (getD_le ok.c12) r
      have := ok.n
      omega
    have hs : ((partsM ws r cs).map mk).map (·.length) = (partsM ws r cs).map (·.length) := by simp [mk_len, Function.comp_def]
    refine sds_ret (ed_is (ed_join (z := mk [32]) (ys := (partsM ws r cs).map mk) (ed_gs Z.c_BLANK) (ed_is (ed_lc2M 3 4 (fun d => rangeD 0 (cs.getD d.n 0)) (fun d _ => ts (ws.getD d.n [])) (id_tup (ed_var 1)) (blkOk_by (by kernel_rfl)) S_text_in.nd (fun s H C cl fp d hd => ?_) (fun s H C cl fp d e hd he => ?_) ?_) (by rw [parts_flat])) ?_) ?_) rfl
    · obtain ⟨k, hk, rfl⟩ := ntl_mem hd
      have hk2 : k < cs.length := by rw [ok.lc]; exact ok.lr k hk
      have hg : cs[k]? = some cs[k] := List.getElem?_eq_getElem hk2
      have e : cs.getD k 0 = cs[k] := by simp [List.getD_eq_getElem?_getD, hk2]
      have hb := ok.c12 _ (List.getElem_mem hk2)
      show ID _ _ _ _ (rangeD 0 (cs.getD k 0))
      rw [e]
      exact id_range1 (ea_cons (ed_at_int (ed_var 2) (ed_var 3) (ntl_get hg)) ea_nil) (by omega) Z.f_range
    · obtain ⟨k, hk, rfl⟩ := ntl_mem hd
      have hk2 := ok.lr k hk
      have e : ws.getD k [] = ws[k] := by simp [List.getD_eq_getElem?_getD, hk2]
      show ED _ _ _ (ts (ws.getD k []))
      rw [e]
      exact ed_at_int (ed_words Z (ed_var 0)) (ed_var 3) (by simp [wordsD, hk2])
    · rw [parts_flat, List.length_map, List.length_map]
      omega
    · rw [hs, List.length_map, mk_len]
      have := sum_le (l := (partsM ws r cs).map (·.length)) (b := 12) (fun x hx => by
        obtain ⟨p, hp, rfl⟩ := List.mem_map.mp hx
        obtain ⟨k, _, rfl⟩ := parts_word hp
        exact word_len ok.w12 k)
      rw [List.length_map] at this
      simp only [List.length_cons, List.length_nil]
      omega
    · show Dt.str (Txt.join (SX.S [32]) ((partsM ws r cs).map SX.S)) = _
      rw [SX.join_S]
      rfl
theorem joinL_len : ∀ ps : List (List Nat), (TL.joinL [32] ps).length ≤ (ps.map fun p => p.length + 1).sum
  | [] => by simp [TL.joinL]
  | [p] => by simp [TL.joinL]
  | p :: q :: r => by
    have ih := joinL_len (q :: r)
    show (p ++ ([32] ++ TL.joinL [32] (q :: r))).length ≤ _
    rw [List.map_cons, List.sum_cons, List.length_append, List.length_append]
    simp only [List.length_cons, List.length_nil] at ih ⊢
    omega
theorem text_len {ws : List (List Nat)} {r cs : List Nat} (ok : TOk ws r cs) : (textM ws r cs).length ≤ 156 * r.length := by
  have h1 := joinL_len (partsM ws r cs)
  have h2 := parts_len (ws := ws) (getD_le ok.c12) r
  have h3 := sum_le (l := (partsM ws r cs).map fun p => p.length + 1) (b := 13) (fun x hx => by
    obtain ⟨p, hp, rfl⟩ := List.mem_map.mp hx
    obtain ⟨k, _, rfl⟩ := parts_word hp
    have := word_len ok.w12 k
    omega)
  rw [List.length_map] at h3
  have h4 : (partsM ws r cs).length * 13 ≤ 12 * r.length * 13 := Nat.mul_le_mul_right _ h2
  show (TL.joinL [32] (partsM ws r cs)).length ≤ _
  omega
theorem p_spelled (Z : Zc K mg) : FnP P w K mg base 5 "spelled" (fun ds d => ∃ (ws : List (List Nat)) (r cs : List Nat), TOk ws r cs ∧ 1 ≤ ws.length ∧ ws.length ≤ 40 ∧ ds = [bookD K ws, .lst (ntl r), .lst (ntl cs)] ∧ d = ts (textM ws r cs)) 3 [] :=
  Z.mk_spelled fun cdv A outer s H E ds d hr ⟨ws, r, cs, ok, h1, h2, e1, e2⟩ => by
    subst e1 e2
    have hn := ok.n
    have hlc := ok.lc
    refine sds_drop (ed_call (p_need_book Z) hr (ea_cons (ed_var 0) ea_nil) ⟨ws, _, rfl, rfl⟩) ?_
    refine sds_asg (vs := [3, 4]) (ed_tup (ea_cons (ed_call (p_need_row Z) hr (ea_cons (ed_var 0) (ea_cons (ed_var 1) ea_nil)) ⟨ws, r, _, h1, ok.lr, by omega, rfl, rfl⟩) (ea_cons (ed_call (p_need_copies Z) hr (ea_cons (ed_var 0) (ea_cons (ed_var 2) ea_nil)) ⟨ws, cs, ok.lc, ok.c12, by omega, rfl, rfl⟩) ea_nil))) (gd_tup (gds_cons (gd_name 3 S_spelled.nd) (gds_cons (gd_name 4 S_spelled.nd) gds_nil))) ?_
    refine sds_set 5 (d := .int ((r.map fun k => (((cs.getD k 0) * ((ws.getD k []).length + 1) : Nat) : Int)).sum)) (ed_is (ed_cb (ea_cons (ed_is (ed_lcM 6 (fun d => .int (((cs.getD d.n 0) * ((ws.getD d.n []).length + 1) : Nat) : Int)) (id_tup (ed_var 3)) (blkOk_by (by kernel_rfl)) S_spelled.nd (fun s H C cl fp d hd => ?_) (by rw [ntl_len]; omega)) (show _ = Dt.lst ((r.map fun k => (((cs.getD k 0) * ((ws.getD k []).length + 1) : Nat) : Int)).map .int) by simp [ntl, Function.comp_def, Dt.n])) ea_nil) cld_sum Z.f_sum) rfl) ?_ S_spelled.nd
    · obtain ⟨k, hk, rfl⟩ := ntl_mem hd
      have hk1 := ok.lr k hk
      have hk2 : k < cs.length := by rw [hlc]; exact hk1
      have e1 : ws.getD k [] = ws[k] := by simp [List.getD_eq_getElem?_getD, hk1]
      have e2 : cs.getD k 0 = cs[k] := by simp [List.getD_eq_getElem?_getD, hk2]
      have b1 := ok.c12 _ (List.getElem_mem hk2)
      have b2 := ok.w12 _ (List.getElem_mem hk1)
      show ED _ _ _ (.int (((cs.getD k 0) * ((ws.getD k []).length + 1) : Nat) : Int))
      rw [e1, e2, Int.natCast_mul]
      exact ed_op (ed_at_int (ed_var 4) (ed_var 6) (ntl_get (List.getElem?_eq_getElem hk2))) (ed_op (ed_cb (ea_cons (ed_at_int (ed_words Z (ed_var 0)) (ed_var 6) (d := ts ws[k]) (by simp [wordsD, hk1])) ea_nil) (cld_lens (by omega)) Z.f_len) ed_int opd_add) (opd_mul (.inl (by constructor <;> omega)))
    · refine sds_ifF (et_cmp (ed_op (ed_var 5) ed_int opd_sub) (ed_gi Z.c_MOST_SIGNS) (opd_b opd_gt (decide_eq_false ?_))) ?_
      · have hb : ∀ x ∈ r.map (fun k => (cs.getD k 0) * ((ws.getD k []).length + 1)), x ≤ 156 := fun x hx => by
          obtain ⟨k, _, rfl⟩ := List.mem_map.mp hx
          have b1 := getD_le ok.c12 k
          have b2 := word_len ok.w12 k
          exact Nat.le_trans (Nat.mul_le_mul b1 (Nat.succ_le_succ b2)) (by decide)
        have hsum := sum_le hb
        rw [List.length_map] at hsum
        have hc : (r.map fun k => (((cs.getD k 0) * ((ws.getD k []).length + 1) : Nat) : Int)).sum = (((r.map (fun k => (cs.getD k 0) * ((ws.getD k []).length + 1))).sum : Nat) : Int) := sum_cast _ r
        rw [hc]
        omega
      · exact sds_ret (ed_call (p_text_in Z) hr (ea_cons (ed_var 0) (ea_cons (ed_var 3) (ea_cons (ed_var 4) ea_nil))) ⟨ws, r, cs, ok, rfl, rfl⟩) rfl
end
end AP
end
/-! AP6 -/
section
set_option Elab.async false
set_option linter.all false
set_option maxRecDepth 100000
set_option maxHeartbeats 4000000
namespace AP
open PySem PySem.Spec PyProof.Rows L2 AL AZ
theorem valD_cons (k' : Key) (d : Dt) (r : KDs) (k : Key) : valD ((k', d) :: r) k = if k' = k then some d else valD r k := by
  unfold valD
  rw [List.find?_cons]
  by_cases e : k' = k
  · simp [e]
  · simp [e]
theorem valD_map1 (j : Key) (d : Dt) (k : Key) (h : k ≠ j) : ∀ b : KDs, valD (b.map (fun kv => if kv.1 = j then (kv.1, d) else kv)) k = valD b k
  | [] => rfl
  | (k', d') :: r => by
    rw [List.map_cons]
    by_cases e : k' = j
    · rw [if_pos e, valD_cons, valD_cons, valD_map1 j d k h r, if_neg (fun z => h (z.symm.trans e)), if_neg (fun z => h (z.symm.trans e))]
    · rw [if_neg e, valD_cons, valD_cons, valD_map1 j d k h r]
theorem valD_map2 (j : Key) (d : Dt) : ∀ b : KDs, (b.any fun kv => decide (kv.1 = j)) = true → valD (b.map (fun kv => if kv.1 = j then (kv.1, d) else kv)) j = some d
  | [], h => by cases h
  | (k', d') :: r, h => by
    rw [List.map_cons]
    by_cases e : k' = j
    · rw [if_pos e, valD_cons, if_pos e]
    · rw [if_neg e, valD_cons, if_neg e]
      refine valD_map2 j d r ?_
      simpa [e] using h
theorem valD_app (j : Key) (d : Dt) (k : Key) : ∀ b : KDs, ¬ (b.any fun kv => decide (kv.1 = j)) = true → valD (b ++ [(j, d)]) k = if k = j then some d else valD b k
  | [], _ => by
    show valD [(j, d)] k = _
    rw [valD_cons]
    by_cases e : k = j
    · rw [if_pos e, if_pos e.symm]
    · rw [if_neg e, if_neg (fun z => e z.symm)]
  | (k', d') :: r, h => by
    have h1 : ¬ k' = j := fun e => h (by simp [e])
    have h2 : ¬ (r.any fun kv => decide (kv.1 = j)) = true := fun e => h (by rw [List.any_cons, e, Bool.or_true])
    rw [List.cons_append, valD_cons, valD_app j d k r h2, valD_cons]
    by_cases e : k' = k
    · subst e
      rw [if_pos rfl, if_neg h1, if_pos rfl]
    · rw [if_neg e, if_neg e]
theorem valD_put (b : KDs) (j : Key) (d : Dt) (k : Key) : valD (putD b j d) k = if k = j then some d else valD b k := by
  unfold putD
  by_cases h : (b.any fun kv => decide (kv.1 = j)) = true
  · rw [if_pos h]
    by_cases e : k = j
    · subst e
      rw [if_pos rfl]
      exact valD_map2 k d b h
    · rw [if_neg e]
      exact valD_map1 j d k e b
  · rw [if_neg h]
    exact valD_app j d k b h
theorem two_none {δ : De} {i j : Nat} (h1 : δ[i]? = some none) (h2 : δ[j]? = some none) : ∀ k ∈ [i, j], δ[k]? = some none := fun k hk => by
  rcases List.mem_cons.mp hk with e | hk
  · exact e ▸ h1
  · obtain rfl : k = j := by simpa using hk
    exact h2
/-! ### what is read of a text -/
def itemsL (l : List Nat) : List (List Nat) := TL.spl [32] 0 [] l
def readM (ws : List (List Nat)) (l : List Nat) : List Nat := ((itemsL l).filter (fun p => decide (p ∈ ws))).map fun p => ws.idxOf p
theorem made_val {ws : List (List Nat)} (nd : ws.Nodup) (p : List Nat) : ∀ n, n ≤ ws.length → valD (madeD (fun i => .inr (mk (ws.getD i []))) (fun i => .int (i : Nat)) n) (.inr (mk p)) = if p ∈ ws.take n then some (.int (ws.idxOf p : Nat)) else none
  | 0, _ => by simp [madeD, valD]
  | n + 1, hn => by
    have ih := made_val nd p n (by omega)
    have hlt : n < ws.length := hn
    have e : ws.getD n [] = ws[n] := by simp [List.getD_eq_getElem?_getD, hlt]
    have et : ws.take (n + 1) = ws.take n ++ [ws[n]] := by rw [List.take_succ, List.getElem?_eq_getElem hlt]; rfl
    show valD (putD _ (.inr (mk (ws.getD n []))) (.int (n : Nat))) _ = _
    rw [valD_put, ih, e, et]
    by_cases h : p = ws[n]
    · subst h
      rw [if_pos rfl, if_pos (List.mem_append_right _ (List.mem_cons_self ..))]
      rw [List.Nodup.idxOf_getElem nd]
    · have h2 : ¬ (Sum.inr (mk p) : Key) = .inr (mk ws[n]) := fun z => h (mk_inj.mp (Sum.inr.inj z))
      have h3 : p ∈ ws.take n ++ [ws[n]] ↔ p ∈ ws.take n := by rw [List.mem_append, List.mem_singleton]; exact ⟨fun z => z.resolve_right h, .inl⟩
      rw [if_neg h2]
      simp only [h3]
section
variable {P : Program} {w : World} {K : PySem.W.Frag} {mg : Str → Option Value} {base : Heap}
theorem split_eq (l : List Nat) : (Txt.split (mk l) (mk [32])).map Dt.str = (itemsL l).map ts := by
  have e : Txt.split (SX.S l) (SX.S [32]) = _ := SX.split_S (by simp) (by decide)
  show (Txt.split (SX.S l) (SX.S [32])).map Dt.str = _
  rw [e]
  simp [itemsL, Function.comp_def]
theorem items_len (l : List Nat) : ((itemsL l).map ts).length ≤ l.length + 2 := by
  rw [← split_eq, List.length_map, ← mk_len l]
  exact split_le _ _
theorem p_row_in (Z : Zc K mg) : FnP P w K mg base 1 "row_in" (fun ds d => ∃ (ws : List (List Nat)) (l : List Nat), BOk ws ∧ l.length ≤ 90000 ∧ ds = [bookD K ws, ts l] ∧ d = .tup (ntl (readM ws l))) 2 [] :=
  Z.mk_row_in fun cdv A outer s H E ds d hr ⟨ws, l, ok, hl, e1, e2⟩ => by
    subst e1 e2
    have hwl : (enumD (wordsD ws)).length = ws.length := by rw [enumD_len]; simp [wordsD]
    have h40 := ok.n2
    refine sds_set 2 (d := dkD (madeD (fun i => .inr (mk (ws.getD i []))) (fun i => .int (i : Nat)) ws.length)) (ed_is (ed_dc (own := [("number", 3), ("word", 4)]) (δi := fun i => ((argsD N_row_in [bookD K ws, ts l]).set 3 (some (.sh (.int (i : Nat))))).set 4 (some (.sh (ts (ws.getD i []))))) (kf := fun i => .inr (mk (ws.getD i []))) (f := fun i => .int (i : Nat)) (id_enumT (ea_cons (ed_words Z (ed_var 0)) ea_nil) Z.f_enumerate) (blkOk_by (by kernel_rfl)) S_row_in.nd (by omega) (two_none rfl rfl) (fun s H C cl fp i d hd => ?_) (fun s H C cl fp i hi => ed_var 4) (fun s H C cl fp i hi => ed_var 3)) (by rw [hwl])) ?_ S_row_in.nd
    · have hil : i < ws.length := by
        rw [← hwl]
        exact (List.getElem?_eq_some_iff.mp hd).1
      have e : ws.getD i [] = ws[i] := by simp [List.getD_eq_getElem?_getD, hil]
      have hx := enumD_get (ds := wordsD ws) (i := i) (d := ts ws[i]) (by simp [wordsD, hil])
      rw [hx] at hd
      cases hd
      rw [e]
      exact gd_tup (gds_cons (gd_name 3 S_row_in.nd) (gds_cons (gd_name 4 S_row_in.nd) gds_nil))
    · refine sds_ret (ed_ct (ea_cons (ed_is (ed_lcMIf 5 (fun d => match d with | .str z => decide (z.cps.toList ∈ ws) | _ => false) (fun d => match d with | .str z => .int (ws.idxOf z.cps.toList : Nat) | _ => .non) (id_list (ed_split (z := mk l) (y := mk [32]) (ed_var 1) (ed_gs Z.c_BLANK) rfl (by rw [mk_len]; exact sl_le (by omega)))) (blkOk_by (by kernel_rfl)) S_row_in.nd (fun s H C cl fp d hd => ?_) (fun s H C cl fp d hd hb => ?_) (by rw [split_eq]; have := items_len l; omega)) (show _ = Dt.lst (ntl (readM ws l)) from ?_)) ea_nil) cld_tupL Z.f_tuple) rfl
      · rw [split_eq] at hd
        obtain ⟨p, hp, rfl⟩ := List.mem_map.mp hd
        refine et_is (et_din (k := .inr (mk p)) hr.units (ed_var 5) (ed_var 2)) ?_
        rw [made_val ok.nd p _ (Nat.le_refl _), List.take_length]
        show _ = decide (p ∈ ws)
        by_cases h : p ∈ ws <;> simp [h]
      · rw [split_eq] at hd
        obtain ⟨p, hp, rfl⟩ := List.mem_map.mp hd
        have hpw : p ∈ ws := of_decide_eq_true hb
        refine ed_dget (k := .inr (mk p)) hr.units (ed_var 2) (ed_var 5) ?_
        rw [made_val ok.nd p _ (Nat.le_refl _), List.take_length, if_pos hpw]
      · rw [split_eq, List.filter_map]
        simp [ntl, readM, Function.comp_def]
end
end AP
end
/-! AL12 -/
section
set_option Elab.async false
set_option linter.all false
set_option maxRecDepth 100000
set_option maxHeartbeats 4000000
namespace AL
open PySem PySem.Spec PyProof.Rows L2
/-! ### the set of a list of unlike texts -/
/-- the first i of them -/
abbrev fstS (xs : List Str) (i : Nat) : Str → Bool := fun y => (xs.take i).any (· == y)
theorem fstS_step {xs : List Str} (nd : xs.Nodup) {i : Nat} (h : i < xs.length) : fstS xs i xs[i] = false ∧ ∀ y, (fstS xs i y || decide (y = xs[i])) = fstS xs (i + 1) y := by
  constructor
  · refine List.any_eq_false.mpr fun z hz hb => ?_
    have e : z = xs[i] := by simpa using hb
    subst e
    obtain ⟨j, hj⟩ := List.mem_iff_getElem?.mp hz
    obtain ⟨hji, ej⟩ := List.getElem?_eq_some_iff.mp hj
    rw [List.length_take] at hji
    rw [List.getElem_take] at ej
    have e2 : j = i := (List.getElem_inj nd).mp ej
    omega
  · intro y
    unfold fstS
    rw [List.take_succ, List.getElem?_eq_getElem h, List.any_append]
    refine congrArg _ ?_
    show decide (y = xs[i]) = ([xs[i]].any (· == y))
    rw [List.any_cons, List.any_nil, Bool.or_false]
    by_cases e : y = xs[i]
    · rw [decide_eq_true e, e]
      simp
    · rw [decide_eq_false e]
      exact (beq_eq_false_iff_ne.mpr fun z => e z.symm).symm
section
variable {prog : Program} {w : World} {A : Around} {I : Addr} {fp wr : List Addr} {G : Array GenState → Array GenState → Prop} {n : Nat} {Pv : Nat → Value → Prop} {St : Nat → Shared → Prop} {R : Result → Shared → Prop} {xs : List Str} {S : Addr}
theorem loop_set (W : WalksS prog w A.in1 I fp wr G n Pv St) (hS : S ∉ fp) (nd : xs.Nodup) (hn : xs.length = n) (h4 : n ≤ 1000) (hv : ∀ i v, Pv i v → ∃ t, v = .str (xs.getD i Str.empty) t) (m : Nat) : ∀ (i : Nat) (s : Shared), i + m = n → St i s → s.heap.SetOf (PySem.strKind prog w) S (fstS xs i) i →
    (∀ s', Moved (S :: wr) G s s' → s'.heap.SetOf (PySem.strKind prog w) S (fstS xs n) n → R (.ok (.ret .none)) s') → codeAny (model prog w) A (.builtin "set.update.loop" ⟨[.ref S, .ref I], []⟩) R s := by
  have hw : S ∉ wr := fun z => hS (W.sub _ z)
  have up : ∀ b ∈ wr, b ∈ S :: wr := fun b => List.mem_cons_of_mem _
  have mv : ∀ {s s' : Shared} {i : Nat}, Moved wr G s s' → s.heap.SetOf (PySem.strKind prog w) S (fstS xs i) i → s'.heap.SetOf (PySem.strKind prog w) S (fstS xs i) i := fun hm ⟨o, es, ep, t, ho, r⟩ => ⟨o, es, ep, t, hm.heap S _ hw ho, r⟩
  induction m with
  | zero =>
    intro i s e hst hs hR
    have e1 : i = n := by omega
    subst e1
    refine codeAny_builtin PyProof.Rows.F.entry_set_update_loop ?_
    rw [Around.under_plainId PyProof.Rows.F.plain_set_update_loop _]
    exact wpAny_bind (W.done s _ _ hst fun s' hm => wpAny_pure (hR s' (hm.mono up) (mv hm hs)))
  | succ m ih =>
    intro i s e hst hs hR
    have hi : i < n := by omega
    have hx : i < xs.length := by omega
    refine codeAny_builtin PyProof.Rows.F.entry_set_update_loop ?_
    rw [Around.under_plainId PyProof.Rows.F.plain_set_update_loop _]
    refine wpAny_bind (W.item i s _ _ hi hst fun v s1 hp hst1 hm => ?_)
    obtain ⟨t, rfl⟩ := hv i v hp
    have ex : xs.getD i Str.empty = xs[i] := by simp [List.getD_eq_getElem?_getD, hx]
    rw [ex]
    obtain ⟨st1, st2⟩ := fstS_step nd hx
    refine wpAny_bind (wpAny_holding (wpAny_holding (wpAny_bind ((PySem.strKind prog w).pyHash (k := xs[i]) (strKind_is _ _ _ _) ?_))))
    refine wpAny_setAddHashed_of (knd := PySem.strKind prog w) (s := { s1 with toks := s1.toks + 1 }) (strKind_is _ _ _ _) rfl (show s1.heap.SetOf _ _ _ _ from mv hm hs) (by unfold scanBound; omega) fun h' hb hs2 => ?_
    have hs3 : h'.SetOf (PySem.strKind prog w) S (fstS xs (i + 1)) (i + 1) := SetOf_congr hs2 st2 (by rw [st1]; rfl)
    refine wpAny_pure ⟨plainId_quiet PyProof.Rows.F.plain_set_update_loop _, ih (i + 1) _ (by omega) (W.frame _ s1 _ _ hst1 (Nat.le_succ _) fun b hf o q => ?_) hs3 fun s2 hm2 => hR s2 (Moved.trans W.gtrans ((hm.mono up).then_heap (Nat.le_succ _) fun b o hf q => ?_) hm2)⟩
    · rw [hb.2 b fun z => hS (z ▸ hf)]
      exact q
    · rw [hb.2 b fun z => hf (by rw [z]; exact List.mem_cons_self ..)]
      exact q
end
section
variable {prog : Program} {w : World} {A : Around} {E : Value → Shared → Prop} {s : Shared} {l : Addr} {items : Array Value} {xs : List Str}
/-- the new, empty set -/
abbrev set0 (led : Bool) : Obj := { cls := .type "set", dict := none, data := .set #[] 0 (.fresh 0 0 led) }
/-- what the filled set is, all that stood standing -/
abbrev Filled (prog : Program) (w : World) (s : Shared) (xs : List Str) (n : Nat) (s' : Shared) : Prop := ∃ (h' : Heap) (tk : Nat), s' = { s with heap := h', toks := tk } ∧ h'.SetOf (PySem.strKind prog w) s.heap.objs.size (fstS xs n) n ∧ ∀ b o, b < s.heap.objs.size → s.heap.get? b = some o → h'.get? b = some o
theorem fill_set (hh : A.handled = none) (hl : s.heap.IsList l items) (hi : StrsAre items.toList xs) (nd : xs.Nodup) (hz : xs.length ≤ 1000) (led : Bool) :
    wpAny (model prog w) A (Builtin.«set.__init__» ⟨[.ref s.heap.objs.size, .ref l], []⟩) (fun fin s' => ∃ v, fin = .done (.ret v) ∧ v = .none ∧ Filled prog w s xs items.size s') E { s with heap := s.heap.push (set0 led) } := by
  obtain ⟨⟨c, dc, dt, sl⟩, ho, hc, nl, hd⟩ := hl
  cases hc
  cases hd
  have hl1 : (s.heap.push (set0 led)).IsList l items := ⟨_, Heap.get?_push_of_some _ ho, rfl, nl, rfl⟩
  have hol' : (s.heap.push (set0 led)).get? l = some { cls := .type "list", dict := dc, data := .seq items nl, slots := sl } := Heap.get?_push_of_some _ ho
  have a1 := PySem.F.sub_list_set
  have a2 := PySem.F.sub_list_frozenset
  have a3 : (Value.type "list" == Value.type "dict") = false := by decide
  have hls : l < s.heap.objs.size := Heap.lt_size ho
  unfold Builtin.«set.__init__» noKeywords Builtin.Frozenset.updateFrom
  generalize hPI : pyIter = PI
  wp_walk
  subst hPI
  refine wpAny_pyIter_list hl1 (wpAny_bind (wpAny_runValue ?_))
  have n1 : l ≠ (s.heap.push (set0 led)).objs.size := by rw [Heap.size_push]; exact Nat.ne_of_lt (Nat.lt_succ_of_lt hls)
  have n2 : s.heap.objs.size ≠ (s.heap.push (set0 led)).objs.size := by rw [Heap.size_push]; exact Nat.ne_of_lt (Nat.lt_succ_self _)
  have hsz : xs.length = items.size := by rw [← StrsAre.len_eq hi, Array.length_toList]
  refine loop_set ((Walks.list (A := _) (by simp [hh]) _ l n1 items).toS) (by simp only [List.mem_cons, List.not_mem_nil, or_false, not_or]; exact ⟨n2, Nat.ne_of_gt hls⟩) nd hsz (by omega) (fun i v hv => SS.strs_at hi i v (by rw [Array.getElem?_toList]; exact hv)) items.size 0 _ (Nat.zero_add _) ⟨⟨_, Heap.get?_push_size _ rfl, rfl, rfl⟩, hl1.push _⟩ ?_ ?_
  · exact SetOf_congr ((setObjOf_fresh (knd := PySem.strKind prog w) led).setOf (Heap.get?_push_of_some _ (Heap.get?_push_size _ rfl)) (by unfold scanBound; omega)) (fun _ => rfl) rfl
  · rintro ⟨h', g', d', tk', os'⟩ hm hS
    obtain rfl := hm.gens
    obtain rfl := hm.drawn
    obtain rfl := hm.os
    refine wpAny_pure (wpAny_pure ⟨_, rfl, rfl, h', tk', rfl, hS, fun b o hb e => hm.heap b o ?_ (Heap.get?_push_of_some _ (Heap.get?_push_of_some _ e))⟩)
    simp only [List.mem_cons, List.not_mem_nil, or_false, not_or]
    exact ⟨Nat.ne_of_lt hb, fun z => by rw [z, Heap.size_push] at hb; exact absurd hb (by omega)⟩
theorem call_set_strs {Q : Value → Shared → Prop} (hh : A.handled = none) (hl : s.heap.IsList l items) (hi : StrsAre items.toList xs) (nd : xs.Nodup) (hz : xs.length ≤ 1000) (h : ∀ s', Filled prog w s xs items.size s' → Q (.ref s.heap.objs.size) s') :
    wpAny (model prog w) A (call (.type "set") [.ref l]) Q E s := by
  obtain ⟨c, tl, hmro⟩ := PySem.F.called_set.mro
  have b1 := PySem.F.called_set.made
  have b2 := PySem.F.called_set.sub
  have b3 := PySem.F.called_set.notType
  have b4 := PySem.F.called_set.canCreate
  have b5 := PySem.F.typeCall_set_1 (.ref l)
  refine wpAny_call (codeAny_of_tree (wpAny_pure (show _ from ⟨Code.quiet_builtin _ (by decide +kernel), codeAny_builtin PySem.F.entry_type_call ?_⟩)))
  rw [Around.under_plain (weight_type_call_type "set" [.ref l] []) rfl]
  repeat (any_goals (first | assumption | wp_step))
  have new := code_set_new_1 (prog := prog) (w := w) (A := A.under (.builtin "type.__call__" ⟨[.type "set", .ref l], []⟩)) (s := s) (.ref l) (E := E) (Q₁ := fun obj s₁ => ∃ led : Bool, obj = .ref s.heap.objs.size ∧ s₁ = { s with heap := s.heap.push (set0 led) }) fun led => ⟨led, rfl, rfl⟩
  refine codeAny_mono new fun r s₁ hr => ?_
  match r, hr with
  | .error e, hr => exact hr
  | .ok (.ret obj), ⟨led, e1, e2⟩ =>
    subst e1 e2
    have hT : Shared.TypeIs { s with heap := s.heap.push (set0 led) } (.ref s.heap.objs.size) "set" := ⟨_, Heap.get?_push_size _ rfl, rfl⟩
    have b6 := PySem.F.called_set.init.lookup
    have b7 := PySem.F.called_set.init.bind (.ref s.heap.objs.size)
    repeat (any_goals (first | assumption | wp_step))
    refine codeAny_mono (codeAny_call_builtin (R := wants (fun v s2 => v = .none ∧ Filled prog w s xs items.size s2) E) PySem.F.called_set.init.plain PySem.F.entry_set_init (check_set_init_1 hT (wpAny_mono (fill_set (A := A.in1.in1) hh hl hi nd hz led) (fun fin s2 ⟨v, e1, e2, hf⟩ => by subst e1; exact ⟨e2, hf⟩) fun _ _ z => z))) fun r2 s2 hr2 => ?_
    match r2, hr2 with
    | .error e, hr2 => exact hr2
    | .ok (.ret v), ⟨e1, hf⟩ =>
      subst e1
      repeat (any_goals (first | assumption | wp_step))
      exact h _ hf
end
end AL
end
/-! AL13 -/
section
set_option Elab.async false
set_option linter.all false
set_option maxRecDepth 100000
set_option maxHeartbeats 4000000
namespace AL
open PySem PySem.Spec PyProof.Rows L2
section
variable {X : Cx} {δ : De} {a : Expr} {p p2 q pos : Pos} {xs : List Str}
def tLenS (K : PySem.W.Frag) (ta : TE) : TE := fun σ H Q => ta σ H fun x H1 => ∃ (l : Addr) (xs : List Str), x = .ref l ∧ SqL K H1 l (xs.map V.str) ∧ xs.Nodup ∧ xs.length ≤ 1000 ∧ Q (.int (xs.length : Nat)) H1
theorem pe_lenS {ta : TE} (hg : Gl X "len") (hm : X.mg "len" = none) (hg2 : Gl X "set") (hm2 : X.mg "set" = none) (ha : PE X a ta) (hc : X.calm = true) (na : starEach [a] X.env = (false, eval a X.env) :: starEach [] X.env) :
    PE X (.Call (.Name "len" p) [.Call (.Name "set" p2) [a] [] q] [] pos) (tLenS X.K ta) := by
  refine ⟨fun pins s σ H Q I h => Call_ (ld_blt I hg hm boot_len (PyProof.Rows.callWith_builtin1 (PyProof.Rows.args_cons ?_ rfl) rfl rfl))⟩
  refine Call_ (ld_blt I hg2 hm2 boot_set (PyProof.Rows.callWith_type1 (PyProof.Rows.args_cons (thn (ha.run pins s σ H _ I h) fun v s1 ⟨x, H1, I1, r1, l, xs, ex, hq, nd, hz, q1⟩ => PyProof.Rows.args_nil ?_) na) na rfl))
  subst ex
  cases r1
  obtain ⟨its, r, pl, _⟩ := I1.list hq
  refine call_set_strs (I1.ok.hd hc) pl.isList (by simpa using strsAre_of r) nd hz fun s' ⟨h', tk, e, hS, hk⟩ => PyProof.Rows.args_nil ?_
  subst e
  have hlen : its.toArray.size = xs.length := by rw [List.size_toArray, ← r.length, List.length_map]
  rw [hlen] at hS
  obtain ⟨o, es, ep, t, ho, hex, hd, _, _, _, hf, hn⟩ := hS
  exact call_len_set ho hex hd hf (by rw [hn] <;> omega) ⟨.int xs.length, H1, (I1.kept (h' := h') (t' := tk) fun b o e => hk b o (Heap.lt_size e) e).tok _, ⟨_, by rw [hn]⟩, q1⟩
/-- len(set(xs)), xs unlike texts -/
theorem ed_lenSet (ha : ED X δ a (.lst (xs.map .str))) (nd : xs.Nodup) (hz : xs.length ≤ 1000) (hm : X.mg "len" = none) (hm2 : X.mg "set" = none) (hg : Gl X "len" := by rfl) (hg2 : Gl X "set" := by rfl) (hc : X.calm = true := by rfl) (na : starEach [a] X.env = (false, eval a X.env) :: starEach [] X.env := by rfl) :
    ED X δ (.Call (.Name "len" p) [.Call (.Name "set" p2) [a] [] q] [] pos) (.int (xs.length : Nat)) :=
  PE.imp (pe_lenS hg hm hg2 hm2 ha hc na) fun σ H Q ⟨O, G, e, sl, k⟩ => ⟨O, G, e, sl, fun v G1 H1 f1 r1 => by
    cases r1 with
    | lst hx rx =>
    obtain rfl := rx.of_strs
    exact ⟨_, xs, rfl, .of (f1.s _ _ hx), nd, hz, k _ G1 H1 f1 (.int _)⟩⟩
end
end AL
end
/-! AP7 -/
section
set_option Elab.async false
set_option linter.all false
set_option maxRecDepth 100000
set_option maxHeartbeats 4000000
namespace AP
open PySem PySem.Spec PyProof.Rows L2 AL AZ
section
variable {P : Program} {w : World} {K : PySem.W.Frag} {mg : Str → Option Value} {base : Heap}
theorem p_are_words (Z : Zc K mg) : FnP P w K mg base 2 "are_words" (fun ds d => ∃ ws, BOk ws ∧ ds = [.lst (wordsD ws), .int 40] ∧ d = .bl true) 2 [] :=
  Z.mk_are_words fun cdv A outer s H E ds d hr ⟨ws, ok, e1, e2⟩ => by
    subst e1 e2
    have hl : (wordsD ws).length = ws.length := by simp [wordsD]
    have h1 := ok.n1
    have h2 := ok.n2
    refine sds_ifF (et_w (ew_or (k := false) (k' := false) (et_not (k := true) (et_val (ed_cb (ea_cons (ed_var 0) (ea_cons (ed_tup (ea_cons (ed_gt (n := "list") Z.f_list) (ea_cons (ed_gt (n := "tuple") Z.f_tuple) ea_nil))) ea_nil)) (cld_isLT rfl rfl) Z.f_isinstance))) fun _ => ew_or1 (et_not (k := true) (et_chain (k := true) (k' := true) ed_int (ed_cb (ea_cons (ed_var 0) ea_nil) cld_lenL Z.f_len) (ed_var 1) (opd_b opd_le (decide_eq_true (by omega))) (opd_b opd_le (decide_eq_true (by omega))))))) ?_
    refine sds_ret (ed_and (k := true) (k' := true) ?_ fun _ => ed_one ?_) rfl
    · refine ed_is (ed_cb (ea_cons (ed_is (ed_lcM 2 (fun _ => .bl true) (id_list (ed_var 0)) (blkOk_by (by kernel_rfl)) S_are_words.nd (fun s H C cl fp d hd => ?_) (by omega)) (by rw [bl_true])) ea_nil) cld_all Z.f_all) (by rw [map_true])
      obtain ⟨p, hp, rfl⟩ := List.mem_map.mp hd
      exact ed_call (p_is_word Z) hr (ea_cons (ed_var 2) ea_nil) (.mk p (ok.lt p hp) (ok.ge p hp) (ok.le p hp))
    · exact ed_cmp (ed_lenSet (xs := ws.map mk) (ed_is (ed_var 0) (show Dt.lst (wordsD ws) = _ by rw [words_eq])) (List.Pairwise.map mk (fun a b h e => h (mk_inj.mp e)) ok.nd) (by simp; omega) Z.f_len Z.f_set) (ed_cb (ea_cons (ed_var 0) ea_nil) cld_lenL Z.f_len) (opd_b opd_eq (by simp [wordsD]))
theorem m_Book (Z : Zc K mg) : MakP P w K mg base 3 "Book" (He.ga K "Book") (fun ds ns fds => ∃ ws, BOk ws ∧ ds = [.lst (wordsD ws)] ∧ ns = [("words" : Str)] ∧ fds = [.tup (wordsD ws)]) 2 := by
  obtain ⟨fd, F⟩ := Z.d_Book__init
  have b : Binds K fd P_Book__init [] := F.bindsN fun _ _ _ _ _ _ us hl => match us, hl with | [_, _], _ => rfl
  refine ⟨_, fd, P_Book__init, Z.mk_Book, fnOkI_of F S_Book__init rfl (by decide) ?_, Z.g_Book, b⟩
  rintro cdv A outer s H E q ds fds ns hr ⟨ws, ok, rfl, rfl, rfl⟩
  refine sds_ifF (et_not (k := true) (et_val (ed_call (p_are_words Z) hr (ea_cons (ed_var 1) (ea_cons (ed_gi Z.c_MOST_WORDS) ea_nil)) ⟨ws, ok, rfl, rfl⟩))) ?_
  exact sds_fld 0 (ed_ct (ea_cons (ed_var 1) ea_nil) cld_tupL Z.f_tuple) Z.cls_Book Z.na_Book_words (sds_nil rfl)
theorem ed_Book {X : Cx} {δ : De} {e : Expr} {ws : List (List Nat)} {p pos : Pos} {j : Nat} (Z : Zc X.K X.mg) (hr : Room j X.A) (he : EA X δ [e] [.lst (wordsD ws)]) (ok : BOk ws) (hk : 4 ≤ j := by decide) (hg : Gl X "Book" := by rfl) (hs : starEach [e] X.env = (false, eval e X.env) :: starEach [] X.env := by rfl) : ED X δ (.Call (.Name "Book" p) [e] [] pos) (bookD X.K ws) :=
  ed_make (m_Book Z) hr he ⟨ws, ok, rfl, rfl, rfl⟩ hk rfl hg (by decide) hs
def deedsL (t : List (List Nat)) : List Dt := t.map fun d => .lst (ntl d)
theorem p_are_deeds (Z : Zc K mg) : FnP P w K mg base 4 "are_deeds" (fun ds d => ∃ t n, MOk t n ∧ 1 ≤ t.length ∧ t.length ≤ 100 ∧ ds = [.lst (deedsL t), .int t.length] ∧ d = .bl true) 2 [] :=
  Z.mk_are_deeds fun cdv A outer s H E ds d hr ⟨t, n, ok, h1, h2, e1, e2⟩ => by
    subst e1 e2
    have hl : (deedsL t).length = t.length := by simp [deedsL]
    have h3 := ok.n1
    have h4 := ok.n2
    obtain ⟨t0, tr, rfl⟩ : ∃ a b, t = a :: b := by
      cases t with
      | nil => simp at h1
      | cons a b => exact ⟨a, b, rfl⟩
    have h0 : (deedsL (t0 :: tr))[0]? = some (.lst (ntl t0)) := rfl
    have hn0 : t0.length = n := ok.len t0 (List.mem_cons_self ..)
    refine sds_ifF (et_w (ew_or (k := false) (k' := false) (et_not (k := true) (et_val (ed_cb (ea_cons (ed_var 0) (ea_cons (ed_tup (ea_cons (ed_gt (n := "list") Z.f_list) (ea_cons (ed_gt (n := "tuple") Z.f_tuple) ea_nil))) ea_nil)) (cld_isLT rfl rfl) Z.f_isinstance))) fun _ => ew_or (k := false) (k' := false) (et_cmp (ed_cb (ea_cons (ed_var 0) ea_nil) cld_lenL Z.f_len) (ed_var 1) (opd_b opd_ne (by simp [deedsL]))) fun _ => ew_or1 (et_not (k := true) (et_val (ed_cb (ea_cons (ed_at_intL (i := 0) (ed_var 0) ed_int h0) (ea_cons (ed_tup (ea_cons (ed_gt (n := "list") Z.f_list) (ea_cons (ed_gt (n := "tuple") Z.f_tuple) ea_nil))) ea_nil)) (cld_isLT rfl rfl) Z.f_isinstance))))) ?_
    refine sds_set 2 (d := .int n) (ed_is (ed_cb (ea_cons (ed_at_intL (i := 0) (ed_var 0) ed_int h0) ea_nil) cld_lenL Z.f_len) (by rw [ntl_len, hn0])) ?_ S_are_deeds.nd
    refine sds_ifF (et_not (k := true) (et_chain (k := true) (k' := true) ed_int (ed_var 2) (ed_gi Z.c_MOST_STATES) (opd_b opd_le (decide_eq_true (by omega))) (opd_b opd_le (decide_eq_true (by omega))))) ?_
    refine sds_ret (ed_is (ed_cb (ea_cons (ed_is (ed_lcM 3 (fun _ => .bl true) (id_list (ed_var 0)) (blkOk_by (by kernel_rfl)) S_are_deeds.nd (fun s H C cl fp d hd => ?_) (by omega)) (by rw [bl_true])) ea_nil) cld_all Z.f_all) (by rw [map_true])) rfl
    obtain ⟨x, hx, rfl⟩ := List.mem_map.mp hd
    have hxl := ok.len x hx
    refine ed_and (k := true) (k' := true) (ed_call (p_are_within Z) hr (ea_cons (ed_var 3) (ea_cons ed_int (ea_cons (ed_is (ed_op (ed_var 2) ed_int opd_sub) (show _ = Dt.int ((n - 1 : Nat) : Int) by congr 1; omega)) ea_nil))) (are_ntl (fun k hk => by have := ok.lt x hx k hk; omega) (by omega))) fun _ => ed_one (ed_cmp (ed_cb (ea_cons (ed_var 3) ea_nil) cld_lenL Z.f_len) (ed_var 2) (opd_b opd_eq (decide_eq_true (by rw [ntl_len, hxl]))))
theorem m_Machine (Z : Zc K mg) : MakP P w K mg base 5 "Machine" (He.ga K "Machine") (fun ds ns fds => ∃ ws t n, MOk t n ∧ ws.length = t.length ∧ 1 ≤ t.length ∧ t.length ≤ 100 ∧ ds = [bookD K ws, .lst (deedsL t)] ∧ ns = [("book" : Str), "deeds", "states"] ∧ fds = [bookD K ws, .tup (deedsD t), .int n]) 3 := by
  obtain ⟨fd, F⟩ := Z.d_Machine__init
  have b : Binds K fd P_Machine__init [] := F.bindsN fun _ _ _ _ _ _ us hl => match us, hl with | [_, _, _], _ => rfl
  refine ⟨_, fd, P_Machine__init, Z.mk_Machine, fnOkI_of F S_Machine__init rfl (by decide) ?_, Z.g_Machine, b⟩
  rintro cdv A outer s H E q ds fds ns hr ⟨ws, t, n, ok, hw, h1, h2, rfl, rfl, rfl⟩
  refine sds_drop (ed_call (p_need_book Z) hr (ea_cons (ed_var 1) ea_nil) ⟨ws, _, rfl, rfl⟩) ?_
  refine sds_ifF (et_not (k := true) (et_val (ed_call (p_are_deeds Z) hr (ea_cons (ed_var 2) (ea_cons (ed_is (ed_cb (ea_cons (ed_words Z (ed_var 1)) ea_nil) cld_lenT Z.f_len) (show _ = Dt.int (t.length : Int) by simp [wordsD, hw])) ea_nil)) ⟨t, n, ok, h1, h2, rfl, rfl⟩))) ?_
  refine sds_fld 0 (ed_var 1) Z.cls_Machine Z.na_Machine_book ?_
  refine sds_fld 0 (ed_ct (ea_cons (ed_is (ed_lcM 3 (fun d => match d with | .lst x => .tup x | _ => .non) (id_list (ed_var 2)) (blkOk_by (by kernel_rfl)) S_Machine__init.nd (fun s H C cl fp d hd => ?_) (by simp [deedsL]; omega)) (show _ = Dt.lst (deedsD t) by simp [deedsL, deedsD, Function.comp_def])) ea_nil) cld_tupL Z.f_tuple) Z.cls_Machine Z.na_Machine_deeds ?_
  · obtain ⟨x, hx, rfl⟩ := List.mem_map.mp hd
    exact ed_ct (ea_cons (ed_var 3) ea_nil) cld_tupL Z.f_tuple
  · obtain ⟨t0, tr, rfl⟩ : ∃ a b, t = a :: b := by
      cases t with
      | nil => simp at h1
      | cons a b => exact ⟨a, b, rfl⟩
    have hn0 : t0.length = n := ok.len t0 (List.mem_cons_self ..)
    exact sds_fld 0 (d := .int n) (ed_is (ed_cb (ea_cons (ed_at_int (i := 0) (ed_fldOb 0 Z.cls_Machine Z.na_Machine_deeds) ed_int rfl) ea_nil) cld_lenT Z.f_len) (by rw [ntl_len, hn0])) Z.cls_Machine Z.na_Machine_states (sds_nil rfl)
theorem p_M_done (Z : Zc K mg) : MetP P w K mg base 5 (He.ga K "Machine") "done" (fun ds d => ∃ ws t n r st, MOk t n ∧ ws.length = t.length ∧ 1 ≤ t.length ∧ (∀ k ∈ r, k < t.length) ∧ r.length ≤ 10000 ∧ st < n ∧ ds = [machD K ws t n, .lst (ntl r), .int (st : Nat)] ∧ d = .int (endM t r st : Nat)) 3 :=
  Z.mk_Machine_done fun cdv A outer s H E ds d hr ⟨ws, t, n, r, st, ok, hw, h1, h2, h3, h4, e1, e2⟩ => by
    subst e1 e2
    refine sds_set 3 (ed_call (p_need_row Z) hr (ea_cons (ed_book Z (ed_var 0)) (ea_cons (ed_var 1) ea_nil)) ⟨ws, r, _, by omega, by rw [hw]; exact h2, h3, rfl, rfl⟩) ?_ S_Machine_done.nd
    refine sds_drop (ed_call (p_need_number Z) hr (ea_cons (ed_var 2) (ea_cons ed_str (ea_cons ed_int (ea_cons (ed_op (ed_states Z (ed_var 0)) ed_int opd_sub) ea_nil)))) (.mk _ _ _ _ (by omega) (by omega))) ?_
    exact sds_ret (ed_call (p_end_of Z) hr (ea_cons (ed_var 0) (ea_cons (ed_var 3) (ea_cons (ed_var 2) ea_nil))) ⟨ws, t, n, r, st, ok, h2, h4, rfl, rfl⟩) rfl
theorem read_lt {ws : List (List Nat)} {l : List Nat} : ∀ k ∈ readM ws l, k < ws.length := fun k hk => by
  unfold readM at hk
  obtain ⟨p, hp, rfl⟩ := List.mem_map.mp hk
  have := of_decide_eq_true (List.mem_filter.mp hp).2
  exact List.idxOf_lt_length_of_mem this
theorem p_M_text (Z : Zc K mg) : MetP P w K mg base 4 (He.ga K "Machine") "done_text" (fun ds d => ∃ ws t n l st, MOk t n ∧ BOk ws ∧ ws.length = t.length ∧ (∀ c ∈ l, sign c) ∧ l.length ≤ 90000 ∧ st < n ∧ ds = [machD K ws t n, ts l, .int (st : Nat)] ∧ d = .int (endM t (readM ws l) st : Nat)) 3 :=
  Z.mk_Machine_done_text fun cdv A outer s H E ds d hr ⟨ws, t, n, l, st, ok, bok, hw, h2, h3, h4, e1, e2⟩ => by
    subst e1 e2
    refine sds_drop (ed_call (p_need_text Z) hr (ea_cons (ed_var 1) ea_nil) (.mk l _ h2 (by omega))) ?_
    refine sds_drop (ed_call (p_need_number Z) hr (ea_cons (ed_var 2) (ea_cons ed_str (ea_cons ed_int (ea_cons (ed_op (ed_states Z (ed_var 0)) ed_int opd_sub) ea_nil)))) (.mk _ _ _ _ (by omega) (by omega))) ?_
    exact sds_ret (ed_call (p_end_of Z) hr (ea_cons (ed_var 0) (ea_cons (ed_call (p_row_in Z) hr (ea_cons (ed_book Z (ed_var 0)) (ea_cons (ed_var 1) ea_nil)) ⟨ws, l, bok, h3, rfl, rfl⟩) (ea_cons (ed_var 2) ea_nil))) ⟨ws, t, n, _, st, ok, fun k hk => by rw [← hw]; exact read_lt k hk, h4, rfl, rfl⟩) rfl
end
end AP
end
/-! AZH -/
section
set_option Elab.async false
set_option linter.all false
set_option maxRecDepth 100000
set_option maxHeartbeats 4000000
namespace AZ
open PySem PySem.Spec PyProof.Rows L2 AL
section
variable {P : Program} {w : World} {K : PySem.W.Frag} {mg : Str → Option Value} {base : Heap} {k : Nat} {R : Nat → List Dt → (Dt → Nat → Prop) → Prop}
/-- what a def of the harbor must keep -/
abbrev BdH (P : Program) (w : World) (K : PySem.W.Frag) (mg : Str → Option Value) (base : Heap) (k : Nat) (x : Str) (N : List Str) (st : Stmt) (R : Nat → List Dt → (Dt → Nat → Prop) → Prop) : Prop :=
  ∀ (cdv : Value) (A : Around) (outer : List Env) (s : Shared) (H : Hp) (E : XK) (a : Addr) (n : Nat) (ds : List Dt) (Φ : Dt → Nat → Prop), Room k (A.deeper (PyProof.Rows.envOfC x (defScope st) s.heap.objs.size (He.fAd K (x, none)) cdv)) → R n ds Φ →
      SDs (cxOf CX0 P w K mg base N x (defScope st) (He.fAd K (x, none)) cdv A outer s H E).nox [a] (hbD N a n ds) (defBody st) { rt := fun d δ' => ∃ n' s', δ'[0]? = some (some s') ∧ IsHb a n' s' ∧ Φ d n', nx := fun δ' => ∃ n' s', δ'[0]? = some (some s') ∧ IsHb a n' s' ∧ Φ .non n' }
theorem Zc.mkH_L_tide (Z : Zc K mg) (hb : BdH P w K mg base k "_law_tide" N_L_tide s_L_tide R) : FnH P w K mg base (k + 1) "_law_tide" R 2 := by
  obtain ⟨fd, F⟩ := Z.d_L_tide
  have b : Binds K fd P_L_tide [] := F.bindsN fun _ _ _ _ _ _ us hl => match us, hl with | [_, _], _ => rfl
  exact ⟨_, fd, P_L_tide, fnOkH_of F S_L_tide rfl hb, Z.g_L_tide, F.kp, b⟩
theorem Zc.mkH_L_one (Z : Zc K mg) (hb : BdH P w K mg base k "_law_one" N_L_one s_L_one R) : FnH P w K mg base (k + 1) "_law_one" R 2 := by
  obtain ⟨fd, F⟩ := Z.d_L_one
  have b : Binds K fd P_L_one [] := F.bindsN fun _ _ _ _ _ _ us hl => match us, hl with | [_, _], _ => rfl
  exact ⟨_, fd, P_L_one, fnOkH_of F S_L_one rfl hb, Z.g_L_one, F.kp, b⟩
theorem Zc.mkH_L_book (Z : Zc K mg) (hb : BdH P w K mg base k "_law_book" N_L_book s_L_book R) : FnH P w K mg base (k + 1) "_law_book" R 2 := by
  obtain ⟨fd, F⟩ := Z.d_L_book
  have b : Binds K fd P_L_book [] := F.bindsN fun _ _ _ _ _ _ us hl => match us, hl with | [_, _], _ => rfl
  exact ⟨_, fd, P_L_book, fnOkH_of F S_L_book rfl hb, Z.g_L_book, F.kp, b⟩
theorem Zc.mkH_L_deed (Z : Zc K mg) (hb : BdH P w K mg base k "_law_deed" N_L_deed s_L_deed R) : FnH P w K mg base (k + 1) "_law_deed" R 2 := by
  obtain ⟨fd, F⟩ := Z.d_L_deed
  have b : Binds K fd P_L_deed [] := F.bindsN fun _ _ _ _ _ _ us hl => match us, hl with | [_, _], _ => rfl
  exact ⟨_, fd, P_L_deed, fnOkH_of F S_L_deed rfl hb, Z.g_L_deed, F.kp, b⟩
theorem Zc.mkH_L_once (Z : Zc K mg) (hb : BdH P w K mg base k "_law_once" N_L_once s_L_once R) : FnH P w K mg base (k + 1) "_law_once" R 2 := by
  obtain ⟨fd, F⟩ := Z.d_L_once
  have b : Binds K fd P_L_once [] := F.bindsN fun _ _ _ _ _ _ us hl => match us, hl with | [_, _], _ => rfl
  exact ⟨_, fd, P_L_once, fnOkH_of F S_L_once rfl hb, Z.g_L_once, F.kp, b⟩
theorem Zc.mkH_L_edit (Z : Zc K mg) (hb : BdH P w K mg base k "_law_edit" N_L_edit s_L_edit R) : FnH P w K mg base (k + 1) "_law_edit" R 3 := by
  obtain ⟨fd, F⟩ := Z.d_L_edit
  have b : Binds K fd P_L_edit [] := F.bindsN fun _ _ _ _ _ _ us hl => match us, hl with | [_, _, _], _ => rfl
  exact ⟨_, fd, P_L_edit, fnOkH_of F S_L_edit rfl hb, Z.g_L_edit, F.kp, b⟩
theorem Zc.mkH_L_damage (Z : Zc K mg) (hb : BdH P w K mg base k "_law_damage" N_L_damage s_L_damage R) : FnH P w K mg base (k + 1) "_law_damage" R 4 := by
  obtain ⟨fd, F⟩ := Z.d_L_damage
  have b : Binds K fd P_L_damage [] := F.bindsN fun _ _ _ _ _ _ us hl => match us, hl with | [_, _, _, _], _ => rfl
  exact ⟨_, fd, P_L_damage, fnOkH_of F S_L_damage rfl hb, Z.g_L_damage, F.kp, b⟩
theorem Zc.mkH_L_worst (Z : Zc K mg) (hb : BdH P w K mg base k "_law_worst" N_L_worst s_L_worst R) : FnH P w K mg base (k + 1) "_law_worst" R 3 := by
  obtain ⟨fd, F⟩ := Z.d_L_worst
  have b : Binds K fd P_L_worst [] := F.bindsN fun _ _ _ _ _ _ us hl => match us, hl with | [_, _, _], _ => rfl
  exact ⟨_, fd, P_L_worst, fnOkH_of F S_L_worst rfl hb, Z.g_L_worst, F.kp, b⟩
theorem Zc.mkH_L_hurt (Z : Zc K mg) (hb : BdH P w K mg base k "_law_hurt" N_L_hurt s_L_hurt R) : FnH P w K mg base (k + 1) "_law_hurt" R 3 := by
  obtain ⟨fd, F⟩ := Z.d_L_hurt
  have b : Binds K fd P_L_hurt [] := F.bindsN fun _ _ _ _ _ _ us hl => match us, hl with | [_, _, _], _ => rfl
  exact ⟨_, fd, P_L_hurt, fnOkH_of F S_L_hurt rfl hb, Z.g_L_hurt, F.kp, b⟩
theorem Zc.mkH_L_flags_right (Z : Zc K mg) (hb : BdH P w K mg base k "_law_flags_right" N_L_flags_right s_L_flags_right R) : FnH P w K mg base (k + 1) "_law_flags_right" R 1 := by
  obtain ⟨fd, F⟩ := Z.d_L_flags_right
  have b : Binds K fd P_L_flags_right [] := F.bindsN fun _ _ _ _ _ _ us hl => match us, hl with | [_], _ => rfl
  exact ⟨_, fd, P_L_flags_right, fnOkH_of F S_L_flags_right rfl hb, Z.g_L_flags_right, F.kp, b⟩
theorem Zc.mkH_L_late_right (Z : Zc K mg) (hb : BdH P w K mg base k "_law_late_right" N_L_late_right s_L_late_right R) : FnH P w K mg base (k + 1) "_law_late_right" R 1 := by
  obtain ⟨fd, F⟩ := Z.d_L_late_right
  have b : Binds K fd P_L_late_right [] := F.bindsN fun _ _ _ _ _ _ us hl => match us, hl with | [_], _ => rfl
  exact ⟨_, fd, P_L_late_right, fnOkH_of F S_L_late_right rfl hb, Z.g_L_late_right, F.kp, b⟩
end
end AZ
end
/-! AP8 -/
section
set_option Elab.async false
set_option linter.all false
set_option maxRecDepth 100000
set_option maxHeartbeats 4000000
namespace AP
open PySem PySem.Spec PyProof.Rows L2 AL AZ
/-! ### == of lists of integers and of nothing -/
theorem pys_int : ∀ l : List Int, Dt.pys (l.map Dt.int) = some (l.map PyData.int)
  | [] => rfl
  | n :: l => by
    show (match Dt.py (.int n), Dt.pys (l.map Dt.int) with
      | some p, some ps => some (p :: ps)
      | _, _ => none) = _
    rw [pys_int l]
    rfl
theorem lay_int : ∀ l : List Int, PyData.canLayAll0 (l.map PyData.int) = true
  | [] => by simp [PyData.canLayAll0]
  | n :: l => by
    rw [List.map_cons, PyData.canLayAll0, lay_int l]
    simp [PyData.canLay0]
theorem dep_int : ∀ l : List Int, PyData.depthAll (l.map PyData.int) = 0
  | [] => by simp [PyData.depthAll]
  | n :: l => by
    rw [List.map_cons, PyData.depthAll, dep_int l]
    simp [PyData.depth]
theorem opd_eqNil {X : Cx} {l : List Int} (hu : X.A.units + 64 < cLine) : OpD X (compareOp .Eq) (.lst (l.map .int)) (.lst []) (.bl (decide (l = []))) := by
  have q := opd_eqD (X := X) (da := .lst (l.map .int)) (db := .lst []) hu (p := .list (l.map PyData.int)) (q := .list []) (by show (Dt.pys (l.map Dt.int)).map PyData.list = _; rw [pys_int]; rfl) rfl (by unfold SeqAt.shaped; simp [PyData.canLay0, PyData.depth, lay_int, dep_int]) (by unfold SeqAt.shaped; simp [PyData.canLay0, PyData.depth, PyData.canLayAll0, PyData.depthAll])
  have e : PyData.eqv (.list (l.map PyData.int)) (.list []) = decide (l = []) := by
    cases l <;> simp [PyData.eqv, PyData.eqvAll]
  rw [e] at q
  exact q
theorem opd_neNil {X : Cx} {l : List Int} (hu : X.A.units + 64 < cLine) : OpD X (compareOp .NotEq) (.lst (l.map .int)) (.lst []) (.bl (!decide (l = []))) := by
  have q := opd_neD (X := X) (da := .lst (l.map .int)) (db := .lst []) hu (p := .list (l.map PyData.int)) (q := .list []) (by show (Dt.pys (l.map Dt.int)).map PyData.list = _; rw [pys_int]; rfl) rfl (by unfold SeqAt.shaped; simp [PyData.canLay0, PyData.depth, lay_int, dep_int]) (by unfold SeqAt.shaped; simp [PyData.canLay0, PyData.depth, PyData.canLayAll0, PyData.depthAll])
  have e : PyData.eqv (.list (l.map PyData.int)) (.list []) = decide (l = []) := by
    cases l <;> simp [PyData.eqv, PyData.eqvAll]
  rw [e] at q
  exact q
theorem fmod_lt (r : Int) {many : Nat} (h : 1 ≤ many) : ∃ k : Nat, k < many ∧ r.fmod (many : Int) = (k : Int) := by
  have h0 : (0 : Int) < many := by omega
  have h1 := Int.fmod_nonneg_of_pos r h0
  have h2 := Int.fmod_lt_of_pos r h0
  exact ⟨(r.fmod many).toNat, by omega, by omega⟩
theorem fdiv_nn {r : Int} {many : Nat} (h : 0 ≤ r) : 0 ≤ r.fdiv (many : Int) := Int.fdiv_nonneg h (by omega)
section
variable {P : Program} {w : World} {K : PySem.W.Frag} {mg : Str → Option Value} {base : Heap}
def RTide (n : Nat) (ds : List Dt) (Φ : Dt → Nat → Prop) : Prop := ∃ many : Nat, 1 ≤ many ∧ many ≤ 100000 ∧ n ≤ 1000000 ∧ ds = [.int many] ∧ ∀ k : Nat, k < many → Φ (.int k) (n + 1)
theorem h_tide (Z : Zc K mg) : FnH P w K mg base 1 "_law_tide" RTide 2 :=
  Z.mkH_L_tide fun cdv A outer s H E a n ds Φ hr ⟨many, h1, h2, hn, e, hΦ⟩ => by
    subst e
    have hdiv : ∀ r : Int, CDivN r (many : Int) := fun r => ⟨by omega, by omega⟩
    have hm0 : (many : Int) ≠ 0 := by omega
    refine sds_open 0 fun cs t r ht1 ht2 hr0 => ?_
    refine sds_ifR (et_cmp (ed_ixHx 0 ed_int rfl) ed_int opd_gt) (fun h => ?_) (fun h => ?_)
    · refine sds_set 2 (ed_ct (ea_cons (ed_ixHx 0 ed_int rfl) ea_nil) cld_intI Z.f_int) ?_ S_L_tide.nd
      refine sds_setHx 0 (jj := 2) (ed_op (ed_var 2) (ed_var 1) (opd_fdiv (hdiv _))) ed_int ?_
      obtain ⟨k, hk, ek⟩ := fmod_lt r h1
      refine sds_ret (ed_is (ed_op (ed_ct (ea_cons (ed_var 2) ea_nil) cld_intI Z.f_int) (ed_var 1) (opd_mod hm0)) (by rw [ek])) ⟨n + 1, _, rfl, ⟨rfl, cs, t, _, rfl, ht1, by omega, fdiv_nn hr0⟩, hΦ k hk⟩
    · have hr1 : r = 0 := by
        have := of_decide_eq_false h
        omega
      refine sds_set 3 (ed_ixHx 0 ed_int rfl) ?_ S_L_tide.nd
      refine sds_setHx 0 (jj := 1) (ed_op (ed_var 3) ed_int opd_add) ed_int ?_
      refine sds_ifR (et_cmp (ed_ixHx 0 ed_int rfl) (ed_lst ea_nil) (opd_eqNil hr.units)) (fun h => ?_) (fun h => ?_)
      · exact sds_ret ed_int ⟨n + 1, _, rfl, ⟨rfl, cs, t + 1, r, rfl, by omega, by omega, hr0⟩, hΦ 0 (by omega)⟩
      · have hcs := of_decide_eq_false h
        have hl : 0 < cs.length := by
          cases cs with
          | nil => exact absurd rfl hcs
          | cons a b => simp
        obtain ⟨k, hk, ek⟩ := fmod_lt t (many := cs.length) hl
        have hl2 : (((cs.map Dt.int).length : Nat) : Int) ≠ 0 := by simp only [List.length_map]; omega
        have hc : (cs.map Dt.int)[k]? = some (.int cs[k]) := by simp [hk]
        refine sds_set 4 (ed_ixL (i := (k : Int)) (ed_ixHx 0 ed_int rfl) (ed_is (ed_op (ed_ct (ea_cons (ed_var 3) ea_nil) cld_intI Z.f_int) (ed_cb (ea_cons (ed_ixHx 0 ed_int rfl) ea_nil) cld_lenL Z.f_len) (opd_mod hl2)) (by rw [List.length_map, ek])) (by rw [atI_nat]; exact hc)) ?_ S_L_tide.nd
        generalize cs[k] = cell at *
        refine sds_ifR (et_w (ew_and (k := decide (t < (cs.length : Int))) (k' := decide ((10 : Int) ^ 18 ≤ if cell < 0 then -cell else cell)) (et_is (k := decide (t < (((cs.map Dt.int).length : Nat) : Int))) (et_cmp (ed_var 3) (ed_cb (ea_cons (ed_ixHx 0 ed_int rfl) ea_nil) cld_lenL Z.f_len) opd_lt) (by rw [List.length_map])) fun _ => ew_and1 (et_cmp (ed_cb (ea_cons (ed_var 4) ea_nil) cld_abs Z.f_abs) (ed_op ed_int ed_int (opd_pow ⟨by omega, by omega, by decide⟩)) opd_ge))) (fun h => ?_) (fun h => ?_)
        · have hb : (10 : Int) ^ 18 ≤ if cell < 0 then -cell else cell := of_decide_eq_true (Bool.and_eq_true_iff.mp h).2
          refine sds_set 2 (ed_op (ed_op ed_int (ed_op (ed_cb (ea_cons (ed_var 4) ea_nil) cld_abs Z.f_abs) (ed_op ed_int ed_int (opd_pow ⟨by omega, by omega, by decide⟩)) opd_sub) (opd_mul (.inl ⟨by decide, by decide⟩))) (ed_ct (ea_cons (ed_cmp (ed_var 4) ed_int opd_lt) ea_nil) cld_intB Z.f_int) opd_add) ?_ S_L_tide.nd
          refine sds_setHx 0 (jj := 2) (ed_op (ed_var 2) (ed_var 1) (opd_fdiv (hdiv _))) ed_int ?_
          generalize hx : 2 * ((if cell < 0 then -cell else cell) - (10 : Int) ^ (18 : Int).toNat) + (if decide (cell < 0) = true then (1 : Int) else 0) = x
          have hx0 : 0 ≤ x := by
            have e18 : (10 : Int) ^ (18 : Int).toNat = (10 : Int) ^ 18 := rfl
            rw [e18] at hx
            by_cases hc : cell < 0
            · simp only [hc, decide_true, if_true] at hx hb
              omega
            · simp only [hc, decide_false, if_false] at hx hb
              simp at hx
              omega
          obtain ⟨k2, hk2, ek2⟩ := fmod_lt x h1
          exact sds_ret (ed_is (ed_op (ed_ct (ea_cons (ed_var 2) ea_nil) cld_intI Z.f_int) (ed_var 1) (opd_mod hm0)) (by rw [ek2])) ⟨n + 1, _, rfl, ⟨rfl, cs, t + 1, _, rfl, by omega, by omega, fdiv_nn hx0⟩, hΦ k2 hk2⟩
        · have b1 : ∀ y m : Int, 0 < m → 0 ≤ y.fmod m ∧ y.fmod m < m := fun y m hm => ⟨Int.fmod_nonneg_of_pos y hm, Int.fmod_lt_of_pos y hm⟩
          have c1 := b1 cell 2147483549 (by decide)
          refine sds_set 5 (ed_op (ed_ct (ea_cons (ed_op (ed_op (ed_op (ed_op (ed_ct (ea_cons (ed_var 4) ea_nil) cld_intI Z.f_int) ed_int (opd_mod (by decide))) (ed_op ed_int (ed_var 3) (opd_mul (.inl ⟨by decide, by decide⟩))) opd_add) ed_int opd_add) ed_int (opd_pow ⟨by omega, by omega, by omega⟩)) ea_nil) cld_intI Z.f_int) ed_int (opd_mod (by decide))) ?_ S_L_tide.nd
          generalize hy : Int.fmod _ 2147483563 = y
          have c2 : 0 ≤ y ∧ y < 2147483563 := by rw [← hy]; exact b1 _ _ (by decide)
          have m1 : y * (2 * t + 74231) ≤ 2147483563 * (2 * t + 74231) := Int.mul_le_mul_of_nonneg_right (by omega) (by omega)
          have m0 : 0 ≤ y * (2 * t + 74231) := Int.mul_nonneg c2.1 (by omega)
          have m2 : 92269 * t * t ≤ 92269 * 1000000 * 1000000 := Int.mul_le_mul (by omega) (by omega) ht1 (by decide)
          have m3 : 0 ≤ 92269 * t * t := Int.mul_nonneg (by omega) ht1
          refine sds_set 5 (ed_op (ed_ct (ea_cons (ed_op (ed_op (ed_op (ed_op (ed_var 5) (ed_op (ed_op ed_int (ed_var 3) (opd_mul (.inl ⟨by decide, by decide⟩))) ed_int opd_add) (opd_mul (.inl ⟨by omega, by omega⟩))) (ed_op (ed_op ed_int (ed_var 3) (opd_mul (.inl ⟨by decide, by decide⟩))) (ed_var 3) (opd_mul (.inl ⟨by omega, by omega⟩))) opd_add) ed_int opd_add) ed_int (opd_pow ⟨by omega, by omega, by omega⟩)) ea_nil) cld_intI Z.f_int) ed_int (opd_mod (by decide))) ?_ S_L_tide.nd
          generalize Int.fmod _ 2147483587 = z
          obtain ⟨k2, hk2, ek2⟩ := fmod_lt (z.fdiv 64) h1
          exact sds_ret (ed_is (ed_op (ed_ct (ea_cons (ed_op (ed_var 5) ed_int (opd_fdiv ⟨by decide, by decide⟩)) ea_nil) cld_intI Z.f_int) (ed_var 1) (opd_mod hm0)) (by rw [ek2])) ⟨n + 1, _, rfl, ⟨rfl, cs, t + 1, r, rfl, by omega, by omega, hr0⟩, hΦ k2 hk2⟩
end
end AP
end
/-! AL20 -/
section
set_option Elab.async false
set_option linter.all false
set_option maxRecDepth 100000
set_option maxHeartbeats 4000000
namespace AL
open PySem PySem.Spec PyProof.Rows L2
section
variable {X : Cx}
theorem rep_cps (c : Nat) (k : Nat) : (⟨(List.replicate k (#[c] : Array Nat)).foldl (· ++ ·) #[]⟩ : Str) = ⟨(List.replicate k c).toArray⟩ := by
  have h : ∀ (k : Nat) (a : Array Nat), (List.replicate k (#[c] : Array Nat)).foldl (· ++ ·) a = a ++ (List.replicate k c).toArray := fun k => by
    induction k with
    | zero => intro a; simp
    | succ k ih =>
      intro a
      rw [List.replicate_succ, List.foldl_cons, ih, List.replicate_succ]
      apply Array.ext'
      simp
  rw [h]
  simp
/-- a letter times k -/
theorem op_letter : OpR X (binaryOp .Mult) (fun x y H Q => ∃ (c k : Nat), x = .str ⟨#[c]⟩ ∧ y = .int k ∧ 2 ≤ k ∧ k ≤ 1000 ∧ Q (.str ⟨(List.replicate k c).toArray⟩) H) := by
  intro pins s σ H x y v u Q I rx ry h
  obtain ⟨c, k, rfl, rfl, h1, h2, q⟩ := h
  obtain ⟨t, rfl⟩ := rx
  obtain ⟨t', rfl⟩ := ry
  have l1 : (⟨#[c]⟩ : Str).length = 1 := rfl
  have n1 : ¬ ((k : Int) < 1) := by omega
  have e1 : ((k : Int) == 1 || (⟨#[c]⟩ : Str).length == 0) = false := by
    rw [l1, Bool.or_eq_false_iff]
    exact ⟨beq_eq_false_iff_ne.mpr (by omega), rfl⟩
  refine PySem.P.mul_str (by rw [decide_eq_false (by omega), decide_eq_false (by omega)]; rfl) (fun _ _ => ?_) (fun _ _ => ?_) ?_
  · rw [l1]
    have : (k : Int) ≤ 1000 := by omega
    have h3 : (1 : Int) ≤ (2 ^ 63 - 1) / (k : Int) := by
      rw [Int.le_ediv_iff_mul_le (by omega)]
      omega
    omega
  · rw [l1, Int.toNat_natCast, Nat.one_mul]
    exact decide_eq_false (by rw [sizeLine_eq]; omega)
  · rw [if_neg n1, if_neg (by rw [e1]; exact Bool.false_ne_true), Int.toNat_natCast, rep_cps]
    refine ⟨?_, .str ⟨(List.replicate k c).toArray⟩, H, I.tok _, ⟨_, rfl⟩, q⟩
    show Array.size _ ≤ _
    rw [List.size_toArray, List.length_replicate, sizeLine_eq]
    omega
theorem opd_letter {c k : Nat} (h1 : 2 ≤ k) (h2 : k ≤ 1000) : OpD X (binaryOp .Mult) (.str ⟨#[c]⟩) (.int (k : Int)) (.str ⟨(List.replicate k c).toArray⟩) := AL.OpR.imp op_letter fun x y H Q ⟨G, e, rx, ry, q⟩ => by
  cases rx
  cases ry
  exact ⟨c, k, rfl, rfl, h1, h2, q _ G H (Fr.refl e) (.str _)⟩
/-- list(text) -/
theorem call_list_text (hc : X.calm = true) : CallR X (.type "list") (fun xs H Q => ∃ z : Str, xs = [.str z] ∧ z.cps.size ≤ sizeLine ∧ ∀ l, H l = none → Q (.ref l) (upd H l (.lst (z.cps.toList.map fun c => V.str ⟨#[c]⟩)))) := by
  intro pins s σ H xs us Q I r h
  obtain ⟨z, rfl, hz, q⟩ := h
  obtain ⟨u, rfl, t, rfl⟩ := vals1 r
  refine PySem.call_list_str (I.ok.hd hc) z t (fun h' tk acc' c' kp e it => ?_) hz
  have rv : ∀ (l : List Nat) (us : List Value), us.length = l.length → (∀ (j : Nat) (v : Value), us[j]? = some v → ∃ c u, l[j]? = some c ∧ v = .str ⟨#[c]⟩ u) → Vals (l.map fun c => V.str ⟨#[c]⟩) us := fun l => by
    induction l with
    | nil =>
      intro us hl _
      rw [List.eq_nil_of_length_eq_zero hl]
      exact .nil
    | cons c l ih =>
      intro us hl hv
      cases us with
      | nil => simp at hl
      | cons u us =>
        obtain ⟨c', u', h1, h2⟩ := hv 0 u rfl
        simp at h1
        subst h1
        exact .cons ⟨u', h2⟩ (ih us (by simpa using hl) fun j v hj => by simpa using hv (j + 1) v (by simpa using hj))
  refine ⟨.ref s.heap.objs.size, _, I.laid (t' := tk) kp (Nat.le_refl _) (show ObjOk X.prog X.w _ h' _ (.lst (z.cps.toList.map fun c => V.str ⟨#[c]⟩)) from ⟨by rw [List.length_map, Array.length_toList]; exact hz, acc'.toList, c', rv _ _ (by rw [Array.length_toList, Array.length_toList]; exact it.1) (fun j v hj => ?_), by rw [Array.toArray_toList]; exact e⟩), rfl, q _ (I.hok.fresh (Nat.le_refl _))⟩
  obtain ⟨c, u, h1, h2⟩ := it.2 j v (by simpa using hj)
  exact ⟨c, u, by simpa using h1, h2⟩
theorem cld_lstS {z : Str} (hz : z.cps.size ≤ sizeLine) (hc : X.calm = true := by rfl) : ClD X (.type "list") [.str z] (.lst (signsD z)) := AL.CallR.imp (call_list_text hc) fun vs H Q ⟨G, e, r, k⟩ => by
  cases r with
  | cons r1 r2 =>
  cases r2
  cases r1
  refine ⟨z, rfl, hz, fun p hp => ?_⟩
  have rr : RpL X.K G (z.cps.toList.map fun c => V.str ⟨#[c]⟩) (signsD z) := by
    unfold signsD
    induction z.cps.toList with
    | nil => exact .nil
    | cons c l ih => exact .cons (.str _) ih
  obtain ⟨f, q⟩ := new_lst (W := []) e hp rr
  exact k _ _ _ f q
end
end AL
end
/-! AP9 -/
section
set_option Elab.async false
set_option linter.all false
set_option maxRecDepth 100000
set_option maxHeartbeats 4000000
namespace AP
open PySem PySem.Spec PyProof.Rows L2 AL AZ
section
variable {P : Program} {w : World} {K : PySem.W.Frag} {mg : Str → Option Value} {base : Heap}
/-- a call of the tide -/
theorem ef_tide {X : Cx} {δ : De} {e : Expr} {a : Addr} {i n j many : Nat} {p hp pos : Pos} {h : Str} {Φ : Dt → Nat → Prop} (Z : Zc X.K X.mg) (hr : Room j X.A) (he : ED X δ e (.int (many : Int))) (h1 : 1 ≤ many) (h2 : many ≤ 100000) (hn : n ≤ 1000000) (hΦ : ∀ k : Nat, k < many → Φ (.int k) (n + 1)) (hk : 1 ≤ j := by decide) (hδ : δ[i]? = some (some (.hb a n)) := by rfl) (hN : X.N[i]? = some h := by rfl) (hg : Gl X "_law_tide" := by rfl)
    (hv : Vis X.env.scope h := by first | exact Or.inl rfl | exact Or.inr (Or.inl rfl) | exact Or.inr (Or.inr rfl)) (hdb2 : (h == ("__debug__" : Str)) = false := by decide) (hcd : (h == ("__classdict__" : Str)) = false := by decide)
    (hs : starEach (.Name h hp :: [e]) X.env = (false, eval (.Name h hp) X.env) :: starEach [e] X.env := by rfl) (hpl : (backTo pos (starEach [e] X.env)).any (·.1) = false := by rfl) (hs2 : starEach [e] X.env = (false, eval e X.env) :: starEach [] X.env := by rfl) : EF (hbF a) i X δ (.Call (.Name "_law_tide" p) [.Name h hp, e] [] pos) Φ :=
  ef_callH (h_tide Z) hr (Ψ := fun ds n' => ds = [.int (many : Int)] ∧ n' = n) (eaf_ea (F := hbF a) n (ea_cons he ea_nil hs2) ⟨rfl, rfl⟩ hδ) (fun ds n' ⟨e1, e2⟩ => by subst e1 e2; exact ⟨rfl, many, h1, h2, hn, rfl, hΦ⟩) hk hδ hN hg hv (by decide) hdb2 hcd hs hpl
def ROne (n : Nat) (ds : List Dt) (Φ : Dt → Nat → Prop) : Prop := ∃ xs : List Dt, 1 ≤ xs.length ∧ xs.length ≤ 100000 ∧ n ≤ 1000000 ∧ ds = [.lst xs] ∧ ∀ d ∈ xs, Φ d (n + 1)
theorem h_one (Z : Zc K mg) : FnH P w K mg base 2 "_law_one" ROne 2 :=
  Z.mkH_L_one fun cdv A outer s H E a n ds Φ hr ⟨xs, h1, h2, hn, e, hΦ⟩ => by
    subst e
    refine sds_retF (F := hbF a) (i := 0) (x0 := n) (Φ := fun d n' => Φ d n' ∧ n' = n + 1) (ef_ixL (ed_var 1) (fun d n' => ∃ k : Nat, k < xs.length ∧ d = .int k ∧ n' = n + 1) (ef_tide Z hr (ed_cb (ea_cons (ed_var 1) ea_nil) cld_lenL Z.f_len) h1 h2 hn fun k hk => ⟨k, hk, rfl, rfl⟩) ?_) ?_
    · rintro d n' ⟨k, hk, rfl, rfl⟩
      exact ⟨k, xs[k], rfl, by rw [atI_nat]; exact List.getElem?_eq_getElem hk, hΦ _ (List.getElem_mem hk), rfl⟩
    · rintro d n' ⟨h3, rfl⟩
      exact ⟨n + 1, _, rfl, ⟨rfl, Nat.le_refl _⟩, h3⟩
/-- a call of one -/
theorem ef_one {X : Cx} {δ : De} {e : Expr} {a : Addr} {i n j : Nat} {xs : List Dt} {p hp pos : Pos} {h : Str} {Φ : Dt → Nat → Prop} (Z : Zc X.K X.mg) (hr : Room j X.A) (he : ED X δ e (.lst xs)) (h1 : 1 ≤ xs.length) (h2 : xs.length ≤ 100000) (hn : n ≤ 1000000) (hΦ : ∀ d ∈ xs, Φ d (n + 1)) (hk : 2 ≤ j := by decide) (hδ : δ[i]? = some (some (.hb a n)) := by rfl) (hN : X.N[i]? = some h := by rfl) (hg : Gl X "_law_one" := by rfl)
    (hv : Vis X.env.scope h := by first | exact Or.inl rfl | exact Or.inr (Or.inl rfl) | exact Or.inr (Or.inr rfl)) (hdb2 : (h == ("__debug__" : Str)) = false := by decide) (hcd : (h == ("__classdict__" : Str)) = false := by decide)
    (hs : starEach (.Name h hp :: [e]) X.env = (false, eval (.Name h hp) X.env) :: starEach [e] X.env := by rfl) (hpl : (backTo pos (starEach [e] X.env)).any (·.1) = false := by rfl) (hs2 : starEach [e] X.env = (false, eval e X.env) :: starEach [] X.env := by rfl) : EF (hbF a) i X δ (.Call (.Name "_law_one" p) [.Name h hp, e] [] pos) Φ :=
  ef_callH (h_one Z) hr (Ψ := fun ds n' => ds = [.lst xs] ∧ n' = n) (eaf_ea (F := hbF a) n (ea_cons he ea_nil hs2) ⟨rfl, rfl⟩ hδ) (fun ds n' ⟨e1, e2⟩ => by subst e1 e2; exact ⟨rfl, xs, h1, h2, hn, rfl, hΦ⟩) hk hδ hN hg hv (by decide) hdb2 hcd hs hpl
/-- words of one letter each, so long -/
def bookW (ls : List Nat) : List (List Nat) := (List.range ls.length).map fun i => List.replicate (ls.getD i 0) (97 + i)
theorem bookW_snoc (ls : List Nat) (l : Nat) : bookW (ls ++ [l]) = bookW ls ++ [List.replicate l (97 + ls.length)] := by
  unfold bookW
  rw [List.length_append, List.length_singleton, List.range_succ, List.map_append]
  have e1 : (List.range ls.length).map (fun i => List.replicate ((ls ++ [l]).getD i 0) (97 + i)) = (List.range ls.length).map (fun i => List.replicate (ls.getD i 0) (97 + i)) := List.map_congr_left fun i hi => ?_
  · rw [e1]
    simp [List.getD_eq_getElem?_getD]
  · have h := List.mem_range.mp hi
    simp [List.getD_eq_getElem?_getD, List.getElem?_append_left h]
def RBook (n : Nat) (ds : List Dt) (Φ : Dt → Nat → Prop) : Prop := ∃ many : Nat, many ≤ 5 ∧ n ≤ 900000 ∧ ds = [.int many] ∧ ∀ ls : List Nat, ls.length = many → (∀ l ∈ ls, 2 ≤ l ∧ l ≤ 6) → Φ (.lst (wordsD (bookW ls))) (n + 2 * many)
theorem abcde_eq : ("abcde" : Str) = mk [97, 98, 99, 100, 101] := by decide +kernel
structure IvBook (n k : Nat) (acc : List Dt) (n' : Nat) : Prop where
  n : n' = n + 2 * k
  ls : ∃ ls : List Nat, ls.length = k ∧ (∀ l ∈ ls, 2 ≤ l ∧ l ≤ 6) ∧ acc = wordsD (bookW ls)
theorem h_book (Z : Zc K mg) : FnH P w K mg base 3 "_law_book" RBook 2 :=
  Z.mkH_L_book fun cdv A outer s H E a n ds Φ hr ⟨many, h1, hn, e, hΦ⟩ => by
    subst e
    have hln : (signsD (mk (([97, 98, 99, 100, 101] : List Nat).take many))).length = many := by rw [signs_len, List.length_take]; simp; omega
    have e0 : Dt.str "abcde" = ts [97, 98, 99, 100, 101] := by rw [abcde_eq]
    refine sds_retF (F := hbF a) (i := 0) (x0 := n) (Φ := fun r n' => ∃ acc, r = .lst acc ∧ IvBook n (signsD (mk (([97, 98, 99, 100, 101] : List Nat).take many))).length acc n')
      (ef_lc (F := hbF a) (i := 0) (x0 := n) 2 (IvBook n) ⟨rfl, [], rfl, (fun _ z => nomatch z), rfl⟩ (id_str (ed_to (l := [97, 98, 99, 100, 101]) (ed_is ed_str e0) (ed_var 1) (by decide))) (blkOk_by (by kernel_rfl)) S_L_book.nd (fun s H C cl fp k acc n' d hd iv => ?_) (by rw [hln]; omega)) ?_
    · obtain ⟨rfl, ls, hls, hb, rfl⟩ := iv
      have hkl : k < many := by rw [← hln]; exact (List.getElem?_eq_some_iff.mp hd).1
      have hd' : d = ts [97 + k] := by
        unfold signsD at hd
        rw [List.getElem?_map] at hd
        obtain ⟨c, hc, rfl⟩ := Option.map_eq_some_iff.mp hd
        have hc2 : ([97, 98, 99, 100, 101] : List Nat)[k]? = some c := by
          have : (([97, 98, 99, 100, 101] : List Nat).take many)[k]? = some c := by simpa [mk] using hc
          rw [List.getElem?_take] at this
          simpa [hkl] using this
        have hk5 : k < 5 := by omega
        have : c = 97 + k := by
          match k, hk5, hc2 with
          | 0, _, h => simpa using h.symm
          | 1, _, h => simpa using h.symm
          | 2, _, h => simpa using h.symm
          | 3, _, h => simpa using h.symm
          | 4, _, h => simpa using h.symm
        rw [this]
      subst hd'
      refine ef_bin (fun d n' => d = ts [97 + k] ∧ n' = n + 2 * k) (ef_ed (F := hbF a) (i := 0) (n + 2 * k) (ed_var 2) ⟨rfl, rfl⟩) (fun _ _ d n' => ∃ m : Nat, 2 ≤ m ∧ m ≤ 6 ∧ d = .int m ∧ n' = n + 2 * k + 2) (fun d n' ⟨e1, e2⟩ => ?_) (fun d n1 d' n2 ⟨e1, e2⟩ ⟨m, m1, m2, e3, e4⟩ => ?_)
      · subst e1 e2
        refine ef_bin (fun d n' => d = .int 2 ∧ n' = n + 2 * k) (ef_ed (F := hbF a) (i := 0) (n + 2 * k) ed_int ⟨rfl, rfl⟩) (fun _ _ d n' => ∃ m : Nat, m ≤ 4 ∧ d = .int m ∧ n' = n + 2 * k + 2) (fun d n' ⟨e1, e2⟩ => ?_) (fun d n1 d' n2 ⟨e1, e2⟩ ⟨m, m1, e3, e4⟩ => ?_)
        · subst e1 e2
          refine ef_callH (h_tide Z) hr (Ψ := fun ds n' => (ds = [.int 2] ∨ ds = [.int 5]) ∧ n' = n + 2 * k + 1) (eaf_cons (fun d n' => (d = .int 2 ∨ d = .int 5) ∧ n' = n + 2 * k + 1) (ef_one Z hr (ed_lst (ea_cons ed_int (ea_cons ed_int ea_nil))) (by decide) (by decide) (by omega) (fun d hd => ⟨by simpa using hd, rfl⟩)) fun d n' ⟨e1, e2⟩ => by
            subst e2
            refine eaf_nil (F := hbF a) (n + 2 * k + 1) ⟨?_, rfl⟩
            rcases e1 with rfl | rfl
            · exact .inl rfl
            · exact .inr rfl) (fun ds n' ⟨e1, e2⟩ => ?_)
          subst e2
          rcases e1 with rfl | rfl
          · exact ⟨rfl, 2, by decide, by decide, by omega, rfl, fun m hm => ⟨m, by omega, rfl, rfl⟩⟩
          · exact ⟨rfl, 5, by decide, by decide, by omega, rfl, fun m hm => ⟨m, by omega, rfl, rfl⟩⟩
        · subst e1 e2 e3 e4
          refine ⟨_, opd_add, 2 + m, by omega, by omega, ?_, rfl⟩
          congr 1
      · subst e1 e2 e3 e4
        refine ⟨ts (List.replicate m (97 + k)), opd_letter m1 (by omega), ⟨by omega, ls ++ [m], by simp [hls], fun l hl => ?_, ?_⟩⟩
        · rcases List.mem_append.mp hl with h | h
          · exact hb l h
          · obtain rfl := List.mem_singleton.mp h
            exact ⟨m1, m2⟩
        · rw [bookW_snoc, hls]
          simp [wordsD]
    · rintro d n' ⟨acc, rfl, ⟨e1, ls, e2, e3, rfl⟩⟩
      rw [hln] at e1 e2
      exact ⟨n + 2 * many, .hb a n', rfl, ⟨rfl, Nat.le_of_eq e1⟩, hΦ ls e2 e3⟩
end
end AP
end
/-! AP10 -/
section
set_option Elab.async false
set_option linter.all false
set_option maxRecDepth 100000
set_option maxHeartbeats 4000000
namespace AP
open PySem PySem.Spec PyProof.Rows L2 AL AZ
theorem ntl_snoc (l : List Nat) (k : Nat) : ntl (l ++ [k]) = ntl l ++ [.int (k : Int)] := by simp [ntl]
/-- what a comprehension of numbers below st has come to -/
structure IvNum (st c n k : Nat) (acc : List Dt) (n' : Nat) : Prop where
  n : n' ≤ n + c * k
  ls : ∃ ls : List Nat, ls.length = k ∧ (∀ l ∈ ls, l < st) ∧ acc = ntl ls
/-- the same, fewer -/
structure IvSub (st n k : Nat) (acc : List Dt) (n' : Nat) : Prop where
  n : n' ≤ n + k
  ls : ∃ ls : List Nat, ls.length ≤ k ∧ (∀ l ∈ ls, l < st) ∧ acc = ntl ls
section
variable {P : Program} {w : World} {K : PySem.W.Frag} {mg : Str → Option Value} {base : Heap}
/-- a deed is drawn -/
def RDeed (c n : Nat) (ds : List Dt) (Φ : Dt → Nat → Prop) : Prop := ∃ st : Nat, 1 ≤ st ∧ st ≤ 5 ∧ n + c ≤ 900000 ∧ ds = [.int st] ∧ ∀ l : List Nat, l.length = st → (∀ x ∈ l, x < st) → Φ (.lst (ntl l)) (n + c)
theorem rangeT {st : Nat} : rangeD 0 (st : Int).toNat = ntl (List.range st) := range_nat st
theorem h_once (Z : Zc K mg) : FnH P w K mg base 3 "_law_once" (RDeed 50) 2 :=
  Z.mkH_L_once fun cdv A outer s H E a n ds Φ hr ⟨st, h1, h2, hn, e, hΦ⟩ => by
    subst e
    have hrl : (rangeD 0 (st : Int).toNat).length = st := by rw [rangeD_len]; rfl
    refine sds_setF (F := hbF a) (i := 0) (x0 := n) (Φ := fun r (n' : Nat) => ∃ acc, r = .lst acc ∧ IvSub st n (rangeD 0 (st : Int).toNat).length acc n') 2
      (ef_lcIf (F := hbF a) (i := 0) (x0 := n) 3 (IvSub st n) ⟨Nat.le_refl _, [], Nat.le_refl _, (fun _ z => nomatch z), rfl⟩ (id_range1 (ea_cons (ed_var 1) ea_nil) (by omega) Z.f_range) (blkOk_by (by kernel_rfl)) S_L_once.nd (fun d => d) (fun s H C cl fp k acc (n' : Nat) d hd iv => ?_) (fun s H C cl fp (n' : Nat) d hd => ed_var 3) (by rw [hrl]; omega)) ?_ S_L_once.nd
    · obtain ⟨hn', ls, hls, hb, rfl⟩ := iv
      have hkl : k < st := by rw [← hrl]; exact (List.getElem?_eq_some_iff.mp hd).1
      have hd' : d = .int (k : Nat) := by
        rw [rangeD_get (by show k < (st : Int).toNat; exact hkl)] at hd
        cases hd
        congr 1
        omega
      subst hd'
      refine etf_cmp (fun d (n2 : Nat) => ∃ j : Nat, d = .int j ∧ n2 = n' + 1) (ef_tide Z hr ed_int (by decide) (by decide) (by omega) fun j hj => ⟨j, rfl, rfl⟩) fun d n2 ⟨j, e1, e2⟩ => ?_
      subst e1 e2
      refine ⟨_, ed_int, _, opd_eq, ?_⟩
      by_cases hj : ((j : Int) = 0)
      · rw [decide_eq_true hj]
        refine ⟨by omega, ls ++ [k], by simp; omega, fun l hl => ?_, by rw [if_pos rfl, ntl_snoc]⟩
        rcases List.mem_append.mp hl with h | h
        · exact hb l h
        · obtain rfl := List.mem_singleton.mp h
          exact hkl
      · rw [decide_eq_false hj]
        exact ⟨by omega, ls, by omega, hb, by simp⟩
    · rintro d n1 ⟨acc, rfl, ⟨hn1, ls, hls, hb, rfl⟩⟩
      rw [hrl] at hn1 hls
      have e0 : ntl ls = (ls.map fun (n : Nat) => (n : Int)).map Dt.int := ntl_eq ls
      refine sds_setF (F := hbF a) (i := 0) (x0 := n1) (Φ := fun r (n' : Nat) => n' ≤ n1 + 1 ∧ ∃ ls : List Nat, 1 ≤ ls.length ∧ ls.length ≤ 5 ∧ (∀ l ∈ ls, l < st) ∧ r = .lst (ntl ls)) 2 (ef_if (k := !decide (ls.map (fun (n : Nat) => (n : Int)) = [])) (et_cmp (ed_is (ed_var 2) (show Dt.lst (ntl ls) = _ by rw [e0])) (ed_lst ea_nil) (opd_neNil hr.units)) (fun h => ?_) (fun h => ?_)) ?_ S_L_once.nd
      · refine ef_ed (F := hbF a) (i := 0) (n1 : Nat) (ed_var 2) ⟨Nat.le_succ _, ls, ?_, by omega, hb, rfl⟩
        cases ls with
        | nil => simp at h
        | cons x y => simp
      · refine ef_lst (F := hbF a) (Ψ := fun ds (n' : Nat) => n' = n1 + 1 ∧ ∃ k : Nat, k < st ∧ ds = [.int (k : Nat)]) (eaf_cons (fun d (n' : Nat) => n' = n1 + 1 ∧ ∃ k : Nat, k < st ∧ d = .int (k : Nat)) (ef_tide Z hr (ed_var 1) h1 (by omega) (by omega) fun k hk => ⟨rfl, k, hk, rfl⟩) fun d n' ⟨e1, k, hk, e2⟩ => ?_) fun ds n' ⟨e1, k, hk, e2⟩ => ?_
        · subst e1 e2
          exact eaf_nil (F := hbF a) (n1 + 1) ⟨rfl, k, hk, rfl⟩
        · subst e1 e2
          exact ⟨by simp, Nat.le_refl _, [k], by simp, by simp, fun l hl => by rw [List.mem_singleton.mp hl]; exact hk, rfl⟩
      · rintro d n2 ⟨hn2, ls2, hl1, hl2, hb2, rfl⟩
        refine sds_retF (F := hbF a) (i := 0) (x0 := n2) (Φ := fun r (n' : Nat) => ∃ acc, r = .lst acc ∧ IvNum st 1 n2 (rangeD 0 (st : Int).toNat).length acc n')
          (ef_lc (F := hbF a) (i := 0) (x0 := n2) 3 (IvNum st 1 n2) ⟨Nat.le_refl _, [], rfl, (fun _ z => nomatch z), rfl⟩ (id_range1 (ea_cons (ed_var 1) ea_nil) (by omega) Z.f_range) (blkOk_by (by kernel_rfl)) S_L_once.nd (fun s H C cl fp k acc (n' : Nat) d hd iv => ?_) (by rw [hrl]; omega)) ?_
        · obtain ⟨hn', ls, hls, hb, rfl⟩ := iv
          have hkl : k < st := by rw [← hrl]; exact (List.getElem?_eq_some_iff.mp hd).1
          have hd' : d = .int (k : Nat) := by
            rw [rangeD_get (by show k < (st : Int).toNat; exact hkl)] at hd
            cases hd
            congr 1
            omega
          subst hd'
          have step : ∀ (j n3 : Nat), j < st → n3 ≤ n' + 1 → IvNum st 1 n2 (k + 1) (ntl ls ++ [.int (j : Nat)]) n3 := fun j n3 hj h3 => ⟨by omega, ls ++ [j], by simp [hls], fun l hl => by
            rcases List.mem_append.mp hl with h | h
            · exact hb l h
            · rw [List.mem_singleton.mp h]
              exact hj, by rw [ntl_snoc]⟩
          refine ef_if (k := decide ((k : Int) ∈ ls2.map fun (n : Nat) => (n : Int))) (et_cmp (ed_var 3) (ed_is (ed_var 2) (show Dt.lst (ntl ls2) = _ by rw [ntl_eq])) opd_inI) (fun _ => ef_ed (F := hbF a) (i := 0) n' (ed_var 3) (step k n' hkl (by omega))) fun _ => ?_
          refine ef_one (n := n') Z hr (ed_var 2) (by rw [ntl_len]; exact hl1) (by rw [ntl_len]; omega) (by omega) fun d hd => ?_
          obtain ⟨j, hj, rfl⟩ := ntl_mem hd
          exact step j _ (hb2 j hj) (Nat.le_refl _)
        · rintro d n' ⟨acc, rfl, ⟨hn', ls, hls, hb, rfl⟩⟩
          rw [hrl] at hn' hls
          exact ⟨n + 50, .hb a n', rfl, ⟨rfl, by omega⟩, hΦ ls hls hb⟩
theorem h_deed (Z : Zc K mg) : FnH P w K mg base 4 "_law_deed" (RDeed 100) 2 :=
  Z.mkH_L_deed fun cdv A outer s H E a n ds Φ hr ⟨st, h1, h2, hn, e, hΦ⟩ => by
    subst e
    have hrl : (rangeD 0 (st : Int).toNat).length = st := by rw [rangeD_len]; rfl
    refine sds_setF (F := hbF a) (i := 0) (x0 := n) (Φ := fun d (n' : Nat) => n' = n + 1 ∧ ∃ k : Nat, d = .int (k : Nat)) 2 (ef_tide Z hr ed_int (by decide) (by decide) (by omega) fun k hk => ⟨rfl, k, rfl⟩) ?_ S_L_deed.nd
    rintro d n1 ⟨e1, way, e2⟩
    subst e1 e2
    refine sds_ifR (et_cmp (ed_var 2) ed_int opd_eq) (fun _ => ?_) (fun _ => ?_)
    · refine sds_retF (F := hbF a) (i := 0) (x0 := n + 1) (Φ := fun r (n' : Nat) => ∃ acc, r = .lst acc ∧ IvNum st 1 (n + 1) (rangeD 0 (st : Int).toNat).length acc n')
          (ef_lc (F := hbF a) (i := 0) (x0 := n + 1) 3 (IvNum st 1 (n + 1)) ⟨Nat.le_refl _, [], rfl, (fun _ z => nomatch z), rfl⟩ (id_range1 (ea_cons (ed_var 1) ea_nil) (by omega) Z.f_range) (blkOk_by (by kernel_rfl)) S_L_deed.nd (fun s H C cl fp k acc (n' : Nat) d hd iv => ?_) (by rw [hrl]; omega)) ?_
      · obtain ⟨hn', ls, hls, hb, rfl⟩ := iv
        have hkl : k < st := by rw [← hrl]; exact (List.getElem?_eq_some_iff.mp hd).1
        exact ef_tide (n := n') Z hr (ed_var 1) h1 (by omega) (by omega) fun j hj => ⟨by omega, ls ++ [j], by simp [hls], fun l hl => by
            rcases List.mem_append.mp hl with h | h
            · exact hb l h
            · rw [List.mem_singleton.mp h]
              exact hj, by rw [ntl_snoc]⟩
      · rintro d n' ⟨acc, rfl, ⟨hn', ls, hls, hb, rfl⟩⟩
        rw [hrl] at hn' hls
        exact ⟨n + 100, .hb a n', rfl, ⟨rfl, by omega⟩, hΦ ls hls hb⟩
    refine sds_ifR (et_cmp (ed_var 2) ed_int opd_eq) (fun _ => ?_) (fun _ => ?_)
    · refine sds_setF (F := hbF a) (i := 0) (x0 := n + 1) (Φ := fun d (n' : Nat) => n' = n + 2 ∧ ∃ k : Nat, k < st ∧ d = .int (k : Nat)) 4 (ef_tide Z hr (ed_var 1) h1 (by omega) (by omega) fun k hk => ⟨rfl, k, hk, rfl⟩) ?_ S_L_deed.nd
      rintro d n1 ⟨e1, top, ht, e2⟩
      subst e1 e2
      refine sds_ret (ed_is (ed_lcM 3 (fun d => .int (min (d.n + 1) top : Nat)) (id_range1 (ea_cons (ed_var 1) ea_nil) (by omega) Z.f_range) (blkOk_by (by kernel_rfl)) S_L_deed.nd (fun s H C cl fp d hd => ?_) (by rw [hrl]; omega)) (show _ = Dt.lst (ntl ((List.range st).map fun k => min (k + 1) top)) by rw [rangeT]; simp [ntl, Function.comp_def, Dt.n])) ⟨n + 100, .hb a (n + 2), rfl, ⟨rfl, by omega⟩, hΦ _ (by simp) fun x hx => ?_⟩
      · rw [rangeT] at hd
        obtain ⟨k, hk, rfl⟩ := ntl_mem hd
        refine ed_is (ed_cb (ea_cons (ed_op (ed_var 3) ed_int opd_add) (ea_cons (ed_var 4) ea_nil)) cld_min2 Z.f_min) ?_
        congr 1
        show (if (top : Int) < (k : Int) + 1 then (top : Int) else (k : Int) + 1) = ((min (k + 1) top : Nat) : Int)
        split <;> omega
      · obtain ⟨k, _, rfl⟩ := List.mem_map.mp hx
        omega
    refine sds_ifR (et_cmp (ed_var 2) ed_int opd_eq) (fun _ => ?_) (fun _ => ?_)
    · refine sds_ret (ed_is (ed_lcM 3 (fun d => .int ((d.n + 1) % st : Nat)) (id_range1 (ea_cons (ed_var 1) ea_nil) (by omega) Z.f_range) (blkOk_by (by kernel_rfl)) S_L_deed.nd (fun s H C cl fp d hd => ?_) (by rw [hrl]; omega)) (show _ = Dt.lst (ntl ((List.range st).map fun k => (k + 1) % st)) by rw [rangeT]; simp [ntl, Function.comp_def, Dt.n])) ⟨n + 100, .hb a (n + 1), rfl, ⟨rfl, by omega⟩, hΦ _ (by simp) fun x hx => ?_⟩
      · rw [rangeT] at hd
        obtain ⟨k, hk, rfl⟩ := ntl_mem hd
        refine ed_is (ed_op (ed_ct (ea_cons (ed_op (ed_var 3) ed_int opd_add) ea_nil) cld_intI Z.f_int) (ed_var 1) (opd_mod (by omega))) ?_
        show Dt.int (Int.fmod ((k : Int) + 1) (st : Int)) = Dt.int (((k + 1) % st : Nat) : Int)
        refine congrArg _ ?_
        show Int.fmod ((k : Int) + 1) (st : Int) = (((k + 1) % st : Nat) : Int)
        rw [Int.fmod_eq_emod_of_nonneg _ (by omega)]
        simp
      · obtain ⟨k, _, rfl⟩ := List.mem_map.mp hx
        exact Nat.mod_lt _ (by omega)
    · refine sds_retF (F := hbF a) (i := 0) (x0 := n + 1) (Φ := fun d (n' : Nat) => n' ≤ n + 51 ∧ ∃ l : List Nat, l.length = st ∧ (∀ x ∈ l, x < st) ∧ d = .lst (ntl l)) (ef_callH (h_once Z) hr (Ψ := fun ds n' => ds = [.int (st : Nat)] ∧ n' = n + 1) (eaf_ea (F := hbF a) (n + 1) (ea_cons (ed_var 1) ea_nil) ⟨rfl, rfl⟩) fun ds n' ⟨e1, e2⟩ => by
        subst e1 e2
        exact ⟨rfl, st, h1, h2, (by show n + 1 + 50 ≤ 900000; omega), rfl, fun l hl hb => ⟨(by show n + 1 + 50 ≤ n + 51; omega), l, hl, hb, rfl⟩⟩) ?_
      rintro d n' ⟨hn', l, hl, hb, rfl⟩
      exact ⟨n + 100, .hb a n', rfl, ⟨rfl, Nat.le_trans hn' (Nat.add_le_add_left (by decide) n)⟩, hΦ l hl hb⟩
end
end AP
end
/-! AP11 -/
section
set_option Elab.async false
set_option linter.all false
set_option maxRecDepth 100000
set_option maxHeartbeats 4000000
namespace AP
open PySem PySem.Spec PyProof.Rows L2 AL AZ
section
variable {P : Program} {w : World} {K : PySem.W.Frag} {mg : Str → Option Value} {base : Heap}
theorem p_L_done (Z : Zc K mg) : FnP P w K mg base 1 "_law_done" (fun ds d => ∃ l e, canE l e ∧ l.length ≤ 90000 ∧ ds = [ts l, e.dt] ∧ d = ts (doneE l e)) 2 [] :=
  Z.mk_L_done fun cdv A outer s H E ds d hr ⟨l, e, hc, hz, e1, e2⟩ => by
    subst e1 e2
    cases e with
    | put a c =>
      have h1 : a ≤ l.length := hc.1
      refine sds_set 2 (ed_ixT (d := .int a) (ed_var (d := .tup [.str "put", .int a, ts [c]]) 1) ed_int rfl) ?_ S_L_done.nd
      refine sds_ifT (et_cmp (ed_ixT (d := .str "put") (ed_var (d := .tup [.str "put", .int a, ts [c]]) 1) ed_int rfl) ed_str (opd_b opd_eqS (by decide))) ?_
      refine sds_ret (ed_ifT (et_chain (k := true) (k' := true) ed_int (ed_var 2) (ed_cb (ea_cons (ed_var 0) ea_nil) (cld_lens (by omega)) Z.f_len) (opd_b opd_le (decide_eq_true (by omega))) (opd_b opd_le (decide_eq_true (by omega)))) (ed_op (ed_op (ed_to (ed_var 0) (ed_var 2) (by omega)) (ed_ixT (d := ts [c]) (ed_var (d := .tup [.str "put", .int a, ts [c]]) 1) ed_int rfl) (opd_cats (by simp; omega))) (ed_from (ed_var 0) (ed_var 2) (by omega)) (opd_cats (by simp; omega)))) rfl
    | lost a =>
      have h1 : a < l.length := hc
      refine sds_set 2 (ed_ixT (d := .int a) (ed_var (d := .tup [.str "lost", .int a]) 1) ed_int rfl) ?_ S_L_done.nd
      refine sds_ifF (et_cmp (ed_ixT (d := .str "lost") (ed_var (d := .tup [.str "lost", .int a]) 1) ed_int rfl) ed_str (opd_b opd_eqS (by decide))) ?_
      refine sds_ifF (et_w (ew_or (k := false) (k' := false) (et_not (k := true) (et_chain (k := true) (k' := true) ed_int (ed_var 2) (ed_cb (ea_cons (ed_var 0) ea_nil) (cld_lens (by omega)) Z.f_len) (opd_b opd_le (decide_eq_true (by omega))) (opd_b opd_lt (decide_eq_true (by omega))))) fun _ => ew_or1 (et_w (ew_and (k := false) (k' := false) (et_cmp (ed_ixT (d := .str "lost") (ed_var (d := .tup [.str "lost", .int a]) 1) ed_int rfl) ed_str (opd_b opd_eqS (by decide))) fun z => nomatch z)))) ?_
      refine sds_ret (ed_op (ed_op (ed_to (ed_var 0) (ed_var 2) (by omega)) (ed_ifF (et_cmp (ed_ixT (d := .str "lost") (ed_var (d := .tup [.str "lost", .int a]) 1) ed_int rfl) ed_str (opd_b opd_eqS (by decide))) (ed_is ed_str (show Dt.str _ = ts [] from rfl))) (opd_cats (by simp; omega))) (ed_from (n := a + 1) (ed_var 0) (ed_op (ed_var 2) ed_int opd_add) (by omega)) (opd_cats (by simp; omega))) rfl
    | chg a c =>
      have h1 : a < l.length := hc.1
      have h2 : l[a]? = some l[a] := List.getElem?_eq_getElem h1
      have h3 : c ≠ l[a] := fun z => hc.2.1 (by rw [h2, z])
      have h4 : ¬ [c] = [l[a]] := fun z => h3 (by simpa using z)
      refine sds_set 2 (ed_ixT (d := .int a) (ed_var (d := .tup [.str "changed", .int a, ts [c]]) 1) ed_int rfl) ?_ S_L_done.nd
      refine sds_ifF (et_cmp (ed_ixT (d := .str "changed") (ed_var (d := .tup [.str "changed", .int a, ts [c]]) 1) ed_int rfl) ed_str (opd_b opd_eqS (by decide))) ?_
      refine sds_ifF (et_w (ew_or (k := false) (k' := false) (et_not (k := true) (et_chain (k := true) (k' := true) ed_int (ed_var 2) (ed_cb (ea_cons (ed_var 0) ea_nil) (cld_lens (by omega)) Z.f_len) (opd_b opd_le (decide_eq_true (by omega))) (opd_b opd_lt (decide_eq_true (by omega))))) fun _ => ew_or1 (et_w (ew_and (k := true) (k' := false) (et_cmp (ed_ixT (d := .str "changed") (ed_var (d := .tup [.str "changed", .int a, ts [c]]) 1) ed_int rfl) ed_str (opd_b opd_eqS (by decide))) fun _ => ew_and1 (et_cmp (ed_ixT (d := ts [c]) (ed_var (d := .tup [.str "changed", .int a, ts [c]]) 1) ed_int rfl) (ed_at (ed_var 0) (ed_var 2) h2 (by omega)) (opd_b opd_eqs (decide_eq_false h4))))))) ?_
      refine sds_ret (ed_op (ed_op (ed_to (ed_var 0) (ed_var 2) (by omega)) (ed_ifT (et_cmp (ed_ixT (d := .str "changed") (ed_var (d := .tup [.str "changed", .int a, ts [c]]) 1) ed_int rfl) ed_str (opd_b opd_eqS (by decide))) (ed_ixT (d := ts [c]) (ed_var (d := .tup [.str "changed", .int a, ts [c]]) 1) ed_int rfl)) (opd_cats (by simp; omega))) (ed_from (n := a + 1) (ed_var 0) (ed_op (ed_var 2) ed_int opd_add) (by omega)) (opd_cats (by simp; omega))) rfl
/-- a drawn edit -/
def REdit (n : Nat) (ds : List Dt) (Φ : Dt → Nat → Prop) : Prop := ∃ (l sg : List Nat), sg ≠ [] ∧ sg.length ≤ 100 ∧ (∀ c ∈ sg, sign c) ∧ l.length ≤ 80000 ∧ n ≤ 900000 ∧ ds = [ts l, ts sg] ∧ ∀ e, canE l e → Φ e.dt (n + 3)
theorem h_edit (Z : Zc K mg) : FnH P w K mg base 3 "_law_edit" REdit 3 :=
  Z.mkH_L_edit fun cdv A outer s H E a n ds Φ hr ⟨l, sg, h0, h1, h2, h3, hn, e, hΦ⟩ => by
    subst e
    have hsl : (signsD (mk sg)).length = sg.length := signs_len sg
    have hs1 : 1 ≤ sg.length := by
      cases sg with
      | nil => exact absurd rfl h0
      | cons x y => simp
    have ret : ∀ {n' : Nat} {e : Ed}, n' ≤ n + 3 → canE l e → ∃ (n2 : Nat) (s' : Sd), some (some (Sd.hb a n')) = some (some s') ∧ IsHb a n2 s' ∧ Φ e.dt n2 := fun {n' e} h4 h5 => ⟨n + 3, .hb a n', rfl, ⟨rfl, h4⟩, hΦ e h5⟩
    refine sds_par2F (F := hbF a) (i := 0) (x0 := n) 3 4 (Θ := fun ds (n' : Nat) => n' = n + 2 ∧ ∃ (k c : Nat), sign c ∧ ds = [.int (k : Nat), ts [c]]) (eaf_cons (fun d (n' : Nat) => n' = n + 1 ∧ ∃ k : Nat, d = .int (k : Nat)) (ef_tide Z hr ed_int (by decide) (by decide) (by omega) fun k hk => ⟨rfl, k, rfl⟩) fun d n' ⟨e1, k, e2⟩ => ?_) ?_ S_L_edit.nd
    · subst e1 e2
      refine eaf_cons (fun d (n' : Nat) => n' = n + 2 ∧ ∃ c : Nat, sign c ∧ d = ts [c]) (ef_one (n := n + 1) Z hr (ed_ct (ea_cons (ed_var 2) ea_nil) (cld_lstS (by show Array.size _ ≤ _; rw [List.size_toArray]; exact sl_le (by omega))) Z.f_list) (by rw [hsl]; exact hs1) (by rw [hsl]; omega) (by omega) fun d hd => ?_) fun d n' ⟨e1, c, hc, e2⟩ => ?_
      · obtain ⟨c, hc, rfl⟩ := signs_mem hd
        exact ⟨rfl, c, h2 c hc, rfl⟩
      · subst e1 e2
        exact eaf_nil (F := hbF a) (n + 2) ⟨rfl, k, c, hc, rfl⟩
    · rintro ds n' ⟨e1, k, c, hc, e2⟩
      subst e1 e2
      refine ⟨_, _, rfl, ?_⟩
      refine sds_ifR (et_w (ew_or (k := decide (l = [])) (k' := decide ((k : Int) = 0)) (et_cmp (ed_var 1) (ed_is ed_str (show Dt.str _ = ts [] from rfl)) opd_eqs) fun _ => ew_or1 (et_cmp (ed_var 3) ed_int opd_eq))) (fun _ => ?_) (fun h => ?_)
      · refine sds_retF (F := hbF a) (i := 0) (x0 := n + 2) (Φ := fun d (n' : Nat) => n' = n + 3 ∧ ∃ j : Nat, j ≤ l.length ∧ d = (Ed.put j c).dt) (ef_tup (F := hbF a) (Ψ := fun ds (n' : Nat) => n' = n + 3 ∧ ∃ j : Nat, j ≤ l.length ∧ ds = [.str "put", .int (j : Nat), ts [c]]) (eaf_cons (fun d (n' : Nat) => n' = n + 2 ∧ d = .str "put") (ef_ed (F := hbF a) (i := 0) (n + 2) ed_str ⟨rfl, rfl⟩) fun d n' ⟨e1, e2⟩ => ?_) fun ds n' ⟨e1, j, hj, e2⟩ => ?_) ?_
        · subst e1 e2
          refine eaf_cons (fun d (n' : Nat) => n' = n + 3 ∧ ∃ j : Nat, j ≤ l.length ∧ d = .int (j : Nat)) (ef_tide (n := n + 2) (many := l.length + 1) Z hr (ed_is (ed_op (ed_cb (ea_cons (ed_var 1) ea_nil) (cld_lens (by omega)) Z.f_len) ed_int opd_add) rfl) (by omega) (by omega) (by omega) fun j hj => ⟨rfl, j, by omega, rfl⟩) fun d n' ⟨e1, j, hj, e2⟩ => ?_
          subst e1 e2
          exact eaf_ea (F := hbF a) (n + 3) (ea_cons (ed_var 4) ea_nil) ⟨rfl, j, hj, rfl⟩
        · subst e1 e2
          exact ⟨by simp, rfl, j, hj, rfl⟩
        · rintro d n' ⟨e1, j, hj, e2⟩
          subst e1 e2
          exact ret (e := .put j c) (Nat.le_refl _) ⟨hj, hc⟩
      · have hl0 : l ≠ [] := fun z => by simp [z] at h
        have hl1 : 1 ≤ l.length := by
          cases l with
          | nil => exact absurd rfl hl0
          | cons x y => simp
        refine sds_setF (F := hbF a) (i := 0) (x0 := n + 2) (Φ := fun d (n' : Nat) => n' = n + 3 ∧ ∃ j : Nat, j < l.length ∧ d = .int (j : Nat)) 5 (ef_tide (n := n + 2) Z hr (ed_cb (ea_cons (ed_var 1) ea_nil) (cld_lens (by omega)) Z.f_len) hl1 (by omega) (by omega) fun j hj => ⟨rfl, j, hj, rfl⟩) ?_ S_L_edit.nd
        rintro d n' ⟨e1, j, hj, e2⟩
        subst e1 e2
        have hx : l[j]? = some l[j] := List.getElem?_eq_getElem hj
        refine sds_ifR (et_cmp (ed_var 3) ed_int opd_eq) (fun _ => ?_) (fun _ => ?_)
        · exact sds_ret (d := (Ed.lost j).dt) (ed_tup (ea_cons ed_str (ea_cons (ed_var 5) ea_nil))) (ret (e := .lost j) (Nat.le_refl _) hj)
        · by_cases hcc : [l[j]] = [c]
          · exact sds_ret (d := (Ed.lost j).dt) (ed_ifF (et_cmp (ed_at (ed_var 1) (ed_var 5) hx (by omega)) (ed_var 4) (opd_b opd_nes (by simp [hcc]))) (ed_tup (ea_cons ed_str (ea_cons (ed_var 5) ea_nil)))) (ret (e := .lost j) (Nat.le_refl _) hj)
          · exact sds_ret (d := (Ed.chg j c).dt) (ed_ifT (et_cmp (ed_at (ed_var 1) (ed_var 5) hx (by omega)) (ed_var 4) (opd_b opd_nes (by simp only [decide_eq_false hcc]; rfl))) (ed_tup (ea_cons ed_str (ea_cons (ed_var 5) (ea_cons (ed_var 4) ea_nil))))) (ret (e := .chg j c) (Nat.le_refl _) ⟨hj, fun z => hcc (by rw [hx] at z; rw [Option.some.inj z]), hc⟩)
end
end AP
end
/-! AL21 -/
section
set_option Elab.async false
set_option linter.all false
set_option maxRecDepth 100000
set_option maxHeartbeats 4000000
namespace AL
open PySem L2
section
variable {F : Eff} {i : Nat} {X : Cx} {W : List Addr} {δ : De} {e a b c : Expr} {rest : List Stmt} {D : EndsD} {Φ : Dt → F.ι → Prop} {x0 : F.ι} {p p2 p3 p4 p5 pos : Pos}
/-- a and b, a changes the slot -/
theorem etf_and1 {Φ Ψ : Bool → F.ι → Prop} (ha : ETF F i X δ a Ψ) (hb : ∀ x, Ψ true x → ∃ k, ET X (δ.set i (some (F.sd x))) b k ∧ Φ k x) (hF : ∀ x, Ψ false x → Φ false x) : ETF F i X δ (.BoolOp .And [a, b] pos) Φ :=
  PT.imp (PW.pt (pw_and ha (pw_and1 (PT.ex fun p : { p : F.ι × Bool // ET X (δ.set i (some (F.sd p.1))) b p.2 } => p.2)))) fun σ H Q ⟨O, G, e, s, q⟩ => ⟨O, G, e, s, fun k x G1 H1 f1 s1 h1 => by
    cases k with
    | false => exact iteF (q false x G1 H1 f1 s1 (hF x h1))
    | true =>
      obtain ⟨k2, he, hΦ⟩ := hb x h1
      exact iteT ⟨⟨(x, k2), he⟩, O, G1, f1.s, s1, fun G2 H2 f2 => q k2 x G2 H2 (f1.trans f2.wide) (s1.mono f2) hΦ⟩⟩
/-- a, b = e, [] through a tuple -/
theorem sds_asgFmk (j k : Nat) {x y : Str} {kt k2 : Nat} (ha : EF F i X δ e Φ) (hr : ∀ d z, Φ d z → SDs X W (((δ.set i (some (F.sd z))).set j (some (.sh d))).set k (some (.mu []))) rest D) (hN : X.N.Nodup) (h0 : δ[i]? = some (some (F.sd x0)) := by rfl) (hj : X.N[j]? = some x := by rfl) (hk : X.N[k]? = some y := by rfl)
    (hxl : Loc X.env.scope x := by first | exact Or.inl rfl | exact Or.inr rfl) (hxf : X.fn x = true ∨ X.env.scope.names.lookup x = some .local := by first | exact .inl rfl | exact .inr rfl)
    (hyl : Loc X.env.scope y := by first | exact Or.inl rfl | exact Or.inr rfl) (hyf : X.fn y = true ∨ X.env.scope.names.lookup y = some .local := by first | exact .inl rfl | exact .inr rfl)
    (hc : X.calm = true := by rfl) (hn : (assignEach [.Name x p, .Name y p2] X.env).length = 2 := by rfl) (hst : (assignEach [.Name x p, .Name y p2] X.env).findIdx? (·.1) = none := by rfl)
    (hg1 : (assignEach [.Name x p, .Name y p2] X.env).map (·.2) = assign (.Name x p) X.env :: (assignEach [.Name y p2] X.env).map (·.2) := by rfl) (hg2 : (assignEach [.Name y p2] X.env).map (·.2) = assign (.Name y p2) X.env :: (assignEach [] X.env).map (·.2) := by rfl)
    (hs1 : starEach [e, .List [] p5] X.env = (false, eval e X.env) :: starEach [.List [] p5] X.env := by rfl) (hs2 : starEach [.List [] p5] X.env = (false, eval (.List [] p5) X.env) :: starEach [] X.env := by rfl)
    (hs : swapsWithSole [.Tuple [.Name x p, .Name y p2] kt p3] (.Tuple [e, .List [] p5] k2 p4) pos.line X.env = pure false := by rfl) (hw : swappedStores [.Tuple [.Name x p, .Name y p2] kt p3] (.Tuple [e, .List [] p5] k2 p4) X.env = pure none := by rfl)
    (h1 : (assignEach [.Tuple [.Name x p, .Name y p2] kt p3] X.env).map (·.2) = [assign (.Tuple [.Name x p, .Name y p2] kt p3) X.env] := by rfl) : SDs X W δ (.Assign [.Tuple [.Name x p, .Name y p2] kt p3] (.Tuple [e, .List [] p5] k2 p4) pos :: rest) D :=
  sds_cons (M := fun δ' => SDs X W δ' rest D) (PS.imp (ps_asg (pe_tup (pa_cons ha (pa_cons (pe_lst pa_nil) pa_nil hs2) hs1)) (pg_tup hc (pgs_cons (pg_name hN hj hxl hxf) (pgs_cons (pg_name hN hk hyl hyf) pgs_nil hg2) hg1) (n := 2) hn hst) hs hw h1) fun E σ H ⟨G0, H0, G, fr, sl, q⟩ => ⟨_, G, fr.s, sl, fun v d z G1 H1 f1 s1 r1 hΦ => ⟨Nat.zero_le _, fun l hl => ⟨show 2 ≤ sizeLine by decide, fun t ht => by
    have fr1 := fr.join f1 (sl.may h0)
    have ff := Fr.fresh (W := ([] : List Addr)) (o := .lst []) f1.s hl
    have ft := Fr.fresh (W := ([] : List Addr)) (o := .tup [v, .ref l]) ff.s ht
    have n0 : H0 l = none := by
      cases q0 : H0 l with
      | none => rfl
      | some o => exact absurd hl (fr1.t l (ne_none q0))
    have hlt : l ≠ t := fun z => by
      rw [← z, upd_same] at ht
      cases ht
    refine ⟨t, [v, .ref l], rfl, .of upd_same, rfl, v, [.ref l], rfl, .ref l, [], rfl, rfl, q.nx _ _ _ ⟨G1, f1.g, (fr1.trans ff.wide).trans ft.wide, (((s1.mono ff).mono ft).set j r1).putN k (s := .mu []) ⟨l, [], rfl, by rw [upd_ne hlt, upd_same], .nil, f1.s.free hl, n0⟩ fun j' s' w hj' hw' l' hl' z => (s1.set j r1).there hj' hw' hl' (by
      obtain rfl : l' = l := List.mem_singleton.mp z
      exact hl)⟩ (hr d z hΦ)⟩⟩⟩⟩) fun δ' h => h
end
end AL
end
/-! AP12 -/
section
set_option Elab.async false
set_option linter.all false
set_option maxRecDepth 100000
set_option maxHeartbeats 4000000
namespace AP
open PySem PySem.Spec PyProof.Rows L2 AL AZ
theorem chain_snoc : ∀ {es : List Ed} {l : List Nat} {e : Ed}, chainE l es → canE (runE l es) e → (runE l es).length ≤ 90000 → chainE l (es ++ [e])
  | [], l, e, _, h1, h2 => ⟨h1, h2, trivial⟩
  | x :: es, l, e, h, h1, h2 => ⟨h.1, h.2.1, chain_snoc (es := es) h.2.2 h1 h2⟩
theorem run_snoc (l : List Nat) (es : List Ed) (e : Ed) : runE l (es ++ [e]) = doneE (runE l es) e := by
  simp [runE, List.foldl_append]
theorem done_len {l : List Nat} {e : Ed} (h : canE l e) : (doneE l e).length ≤ l.length + 1 := by
  cases e with
  | put a c =>
    have := h.1
    simp [doneE]
    omega
  | lost a =>
    have h1 : a < l.length := h
    simp [doneE]
    omega
  | chg a c =>
    have h1 : a < l.length := h.1
    simp [doneE]
    omega
theorem done_sign {l : List Nat} {e : Ed} (h : canE l e) (hl : ∀ c ∈ l, sign c) : ∀ c ∈ doneE l e, sign c := by
  cases e with
  | put a c =>
    intro x hx
    simp only [doneE, List.mem_append, List.mem_singleton] at hx
    rcases hx with (hx | rfl) | hx
    · exact hl x (List.mem_of_mem_take hx)
    · exact h.2
    · exact hl x (List.mem_of_mem_drop hx)
  | lost a =>
    intro x hx
    simp only [doneE, List.mem_append, List.not_mem_nil, or_false] at hx
    rcases hx with hx | hx
    · exact hl x (List.mem_of_mem_take hx)
    · exact hl x (List.mem_of_mem_drop hx)
  | chg a c =>
    intro x hx
    simp only [doneE, List.mem_append, List.mem_singleton] at hx
    rcases hx with (hx | rfl) | hx
    · exact hl x (List.mem_of_mem_take hx)
    · exact h.2.2
    · exact hl x (List.mem_of_mem_drop hx)
theorem run_sign : ∀ {es : List Ed} {l : List Nat}, chainE l es → (∀ c ∈ l, sign c) → ∀ c ∈ runE l es, sign c
  | [], _, _, h => h
  | e :: es, l, h, hl => run_sign (es := es) h.2.2 (done_sign h.1 hl)
theorem run_len : ∀ {es : List Ed} {l : List Nat}, chainE l es → (runE l es).length ≤ l.length + es.length
  | [], _, _ => Nat.le_refl _
  | e :: es, l, h => by
    have h1 := run_len (es := es) h.2.2
    have h2 := done_len h.1
    show (runE (doneE l e) es).length ≤ _
    rw [List.length_cons]
    omega
section
variable {P : Program} {w : World} {K : PySem.W.Frag} {mg : Str → Option Value} {base : Heap}
def RDamage (n : Nat) (ds : List Dt) (Φ : Dt → Nat → Prop) : Prop := ∃ (l sg : List Nat) (many : Nat), sg ≠ [] ∧ sg.length ≤ 100 ∧ (∀ c ∈ sg, sign c) ∧ l.length ≤ 50000 ∧ many ≤ 12 ∧ n ≤ 800000 ∧ ds = [ts l, .int many, ts sg] ∧ ∀ es : List Ed, es.length = many → chainE l es → Φ (.tup [eds es, ts (runE l es)]) (n + 36)
theorem h_damage (Z : Zc K mg) : FnH P w K mg base 4 "_law_damage" RDamage 4 :=
  Z.mkH_L_damage fun cdv A outer s H E a n ds Φ hr ⟨l, sg, many, h0, h1, h2, h3, h4, hn, e, hΦ⟩ => by
    subst e
    refine sds_mk 4 ea_nil ?_ S_L_damage.nd
    have hrl : (rangeD 0 (many : Int).toNat).length = many := by rw [rangeD_len]; rfl
    refine sds_cons (M := fun δ' => ∃ (n' : Nat) (es : List Ed) (o5 o6 : Option Sd), n' ≤ n + 3 * many ∧ es.length = many ∧ chainE l es ∧ δ' = [some (.hb a n'), some (.sh (ts (runE l es))), some (.sh (.int many)), some (.sh (ts sg)), some (.mu (es.map Ed.dt)), o5, o6]) (sd_for (vs := [5]) (δt := fun i δ' => δ'.set 5 (some (.sh ((rangeD 0 (many : Int).toNat).getD i .non))))
      (fun i δ' => ∃ (n' : Nat) (es : List Ed) (o5 o6 : Option Sd), n' ≤ n + 3 * i ∧ es.length = i ∧ chainE l es ∧ δ' = [some (.hb a n'), some (.sh (ts (runE l es))), some (.sh (.int many)), some (.sh (ts sg)), some (.mu (es.map Ed.dt)), o5, o6]) (id_range1 (ea_cons (ed_var 2) ea_nil) (by omega) Z.f_range) ⟨n, [], none, none, Nat.le_refl _, rfl, trivial, rfl⟩ ?_ ?_ ?_) ?_
    · rintro i d δ' hd ⟨n', es, o5, o6, g1, g2, g3, rfl⟩
      rw [getD_of hd]
      exact gd_name 5 S_L_damage.nd
    · rintro i d δ' hd ⟨n', es, o5, o6, g1, g2, g3, rfl⟩
      rw [getD_of hd]
      have hi : i < many := by rw [← hrl]; exact (List.getElem?_eq_some_iff.mp hd).1
      have hlen := run_len g3
      refine sds_setF (F := hbF a) (i := 0) (x0 := n') (Φ := fun d (n2 : Nat) => n2 = n' + 3 ∧ ∃ e, canE (runE l es) e ∧ d = e.dt) 6 (ef_callH (h_edit Z) hr (Ψ := fun ds (n2 : Nat) => ds = [ts (runE l es), ts sg] ∧ n2 = n') (eaf_ea (F := hbF a) n' (ea_cons (ed_var 1) (ea_cons (ed_var 3) ea_nil)) ⟨rfl, rfl⟩) fun ds n2 ⟨e1, e2⟩ => by
        subst e1 e2
        exact ⟨rfl, _, sg, h0, h1, h2, by omega, by omega, rfl, fun e he => ⟨rfl, e, he, rfl⟩⟩) ?_ S_L_damage.nd
      rintro d2 n2 ⟨e1, e, he, e2⟩
      subst e1 e2
      refine sds_append (ds := es.map Ed.dt) 4 (ed_var 6) (by simp; omega) ?_
      refine sds_set 1 (ed_call (p_L_done Z) hr (ea_cons (ed_var 1) (ea_cons (ed_var 6) ea_nil)) ⟨_, e, he, by omega, rfl, rfl⟩) (sds_nil ⟨n' + 3, es ++ [e], some (.sh d), some (.sh e.dt), by omega, by simp [g2], chain_snoc g3 he (by omega), ?_⟩) S_L_damage.nd
      rw [run_snoc, List.map_append]
      rfl
    · rintro δ' ⟨n', es, o5, o6, g1, g2, g3, rfl⟩
      rw [hrl] at g1 g2
      exact ⟨n', es, o5, o6, g1, g2, g3, rfl⟩
    · rintro δ' ⟨n', es, o5, o6, g1, g2, g3, rfl⟩
      refine sds_frz 4 ?_
      exact sds_ret (ed_tup (ea_cons (ed_var 4) (ea_cons (ed_var 1) ea_nil))) ⟨n + 36, .hb a n', rfl, ⟨rfl, by omega⟩, hΦ es g2 g3⟩
end
/-- losses from the right to the left -/
theorem lost_chain : ∀ {ps : List Nat} {l : List Nat}, ps.Pairwise (· > ·) → (∀ p ∈ ps, p < l.length) → l.length ≤ 90000 → chainE l (ps.map Ed.lost)
  | [], _, _, _, _ => trivial
  | p :: ps, l, h, hb, hz => by
    have hp : p < l.length := hb p (List.mem_cons_self ..)
    have e : (doneE l (.lost p)).length = l.length - 1 := by simp [doneE]; omega
    refine ⟨hp, hz, lost_chain (List.pairwise_cons.mp h).2 (fun q hq => ?_) (by rw [e]; omega)⟩
    have := (List.pairwise_cons.mp h).1 q hq
    rw [e]
    omega
theorem pys_lost : ∀ ps : List Nat, Dt.pys ((ps.map Ed.lost).map Ed.dt) = some (ps.map fun (p : Nat) => PyData.tuple [.str "lost", .int (p : Int)])
  | [] => rfl
  | p :: ps => by
    show (match Dt.py (Ed.lost p).dt, Dt.pys ((ps.map Ed.lost).map Ed.dt) with
      | some p, some ps => some (p :: ps)
      | _, _ => none) = _
    rw [pys_lost ps]
    rfl
theorem lay_lost : ∀ ps : List Nat, PyData.canLayAll0 (ps.map fun (p : Nat) => PyData.tuple [.str "lost", .int (p : Int)]) = true
  | [] => by simp [PyData.canLayAll0]
  | p :: ps => by
    have h : PyData.strOk "lost" = true := by decide +kernel
    rw [List.map_cons, PyData.canLayAll0, lay_lost ps]
    simp [PyData.canLay0, PyData.canLayAll0, h]
theorem dep_lost : ∀ ps : List Nat, PyData.depthAll (ps.map fun (p : Nat) => PyData.tuple [.str "lost", .int (p : Int)]) ≤ 1
  | [] => by simp [PyData.depthAll]
  | p :: ps => by
    rw [List.map_cons, PyData.depthAll]
    exact Nat.max_le.mpr ⟨by simp [PyData.depth, PyData.depthAll], dep_lost ps⟩
theorem opd_neNilE {X : Cx} {ps : List Nat} (hu : X.A.units + 64 < cLine) : OpD X (compareOp .NotEq) (eds (ps.map Ed.lost)) (.lst []) (.bl (!decide (ps = []))) := by
  have d1 := dep_lost ps
  have q := opd_neD (X := X) (da := eds (ps.map Ed.lost)) (db := .lst []) hu (p := .list (ps.map fun (p : Nat) => PyData.tuple [.str "lost", .int (p : Int)])) (q := .list []) (by show (Dt.pys ((ps.map Ed.lost).map Ed.dt)).map PyData.list = _; rw [pys_lost]; rfl) rfl (by unfold SeqAt.shaped; simp [PyData.canLay0, PyData.depth, lay_lost]; omega) (by unfold SeqAt.shaped; simp [PyData.canLay0, PyData.depth, PyData.canLayAll0, PyData.depthAll])
  have e : PyData.eqv (.list (ps.map fun (p : Nat) => PyData.tuple [.str "lost", .int (p : Int)])) (.list []) = decide (ps = []) := by
    cases ps <;> simp [PyData.eqv, PyData.eqvAll]
  rw [e] at q
  exact q
end AP
end
/-! AP13 -/
section
set_option Elab.async false
set_option linter.all false
set_option maxRecDepth 100000
set_option maxHeartbeats 4000000
namespace AP
open PySem PySem.Spec PyProof.Rows L2 AL AZ
/-- where blanks stand -/
def spotsL (l : List Nat) : List Nat := (List.range l.length).filter fun i => decide (l[i]? = some 32)
theorem spots_lt {l : List Nat} : ∀ p ∈ spotsL l, p < l.length ∧ l[p]? = some 32 := fun p hp => by
  obtain ⟨h1, h2⟩ := List.mem_filter.mp hp
  exact ⟨List.mem_range.mp h1, of_decide_eq_true h2⟩
theorem spots_up (l : List Nat) : (spotsL l).Pairwise (· < ·) := List.pairwise_lt_range.filter _
/-- what a choice of places gives -/
def someL (sp : List Nat) (b : Nat → Bool) : List Nat := ((List.range sp.length).filter b).map fun i => sp.getD i 0
theorem some_mem {sp : List Nat} {b : Nat → Bool} : ∀ p ∈ someL sp b, p ∈ sp := fun p hp => by
  obtain ⟨i, hi, rfl⟩ := List.mem_map.mp hp
  have h := List.mem_range.mp (List.mem_filter.mp hi).1
  rw [List.getD_eq_getElem?_getD, List.getElem?_eq_getElem h]
  exact List.getElem_mem h
theorem some_up {sp : List Nat} {b : Nat → Bool} (h : sp.Pairwise (· < ·)) : (someL sp b).Pairwise (· < ·) := by
  refine List.pairwise_map.mpr ?_
  refine List.Pairwise.imp_of_mem (fun {i j} hi hj hij => ?_) (List.pairwise_lt_range.filter (p := b))
  have h1 := List.mem_range.mp (List.mem_filter.mp hi).1
  have h2 := List.mem_range.mp (List.mem_filter.mp hj).1
  rw [List.getD_eq_getElem?_getD, List.getElem?_eq_getElem h1, List.getD_eq_getElem?_getD, List.getElem?_eq_getElem h2]
  exact List.pairwise_iff_getElem.mp h i j h1 h2 hij
section
variable {P : Program} {w : World} {K : PySem.W.Frag} {mg : Str → Option Value} {base : Heap}
def RWorst (n : Nat) (ds : List Dt) (Φ : Dt → Nat → Prop) : Prop := ∃ (l : List Nat) (many : Nat), (∀ i, l[i]? = some 32 → i + 1 < l.length) ∧ l.length ≤ 50000 ∧ many ≤ 12 ∧ n ≤ 800000 ∧ ds = [ts l, .int many] ∧ ∀ es : List Ed, es.length ≤ many → chainE l es → Φ (eds es) (n + 2)
theorem h_worst (Z : Zc K mg) : FnH P w K mg base 2 "_law_worst" RWorst 3 :=
  Z.mkH_L_worst fun cdv A outer s H E a n ds Φ hr ⟨l, many, hb, hl, hm, hn, e, hΦ⟩ => by
    subst e
    have hrl : (rangeD 0 (l.length : Int).toNat).length = l.length := by rw [rangeD_len]; rfl
    have esp : (((rangeD 0 (l.length : Int).toNat).filter fun d => decide (l[d.n]? = some 32)).map fun d => d) = ntl (spotsL l) := by
      rw [show (l.length : Int).toNat = l.length from rfl, range_nat]
      unfold ntl spotsL
      rw [List.filter_map, List.map_map]
      rfl
    have hsl : (spotsL l).length ≤ l.length := by
      unfold spotsL
      exact Nat.le_trans (List.length_filter_le _ _) (by simp)
    refine sds_lcMIf 3 4 (fun d => decide (l[d.n]? = some 32)) (fun d => d) (id_range1 (ea_cons (ed_cb (ea_cons (ed_var 1) ea_nil) (cld_lens (by omega)) Z.f_len) ea_nil) (by omega) Z.f_range) (blkOk_by (by kernel_rfl)) S_L_worst.nd (fun s H C cl fp d hd => ?_) (fun s H C cl fp d hd hb => ed_var 4) (by rw [hrl]; omega) ?_
    · rw [show (l.length : Int).toNat = l.length from rfl, range_nat] at hd
      obtain ⟨k, hk, rfl⟩ := ntl_mem hd
      have hkl := List.mem_range.mp hk
      have hx : l[k]? = some l[k] := List.getElem?_eq_getElem hkl
      refine et_is (et_cmp (ed_at (ed_var 1) (ed_var 4) hx (by omega)) (ed_is ed_str (show Dt.str _ = ts [32] by rw [blank_eq])) opd_eqs) ?_
      show _ = decide (l[k]? = some 32)
      rw [hx]
      simp
    rw [esp]
    refine sds_asgFmk (F := hbF a) (i := 0) (x0 := n) 5 6 (Φ := fun d (n' : Nat) => n' = n + 1 ∧ ∃ k : Nat, d = .int (k : Nat)) (ef_tide (n := n) (many := max 1 (spotsL l).length) Z hr (ed_is (ed_cb (ea_cons ed_int (ea_cons (ed_cb (ea_cons (ed_var 3) ea_nil) cld_lenL Z.f_len) ea_nil)) cld_max2 Z.f_max) ?_) (by omega) (by omega) (by omega) fun k hk => ⟨rfl, k, rfl⟩) ?_ S_L_worst.nd
    · rw [ntl_len]
      congr 1
      split <;> omega
    rintro d n1 ⟨e1, first, e2⟩
    subst e1 e2
    have hel : (enumD (ntl (spotsL l))).length = (spotsL l).length := by rw [enumD_len, ntl_len]
    -- the chosen ones
    let b : Nat → Bool := fun i => decide ((first : Int) ≤ (i : Int)) && decide (Int.fmod ((i : Int) - (first : Int)) 2 = 0)
    have eout : outD (enumD (ntl (spotsL l))).length b (fun i => .int ((spotsL l).getD i 0 : Nat)) = ntl (someL (spotsL l) b) := by
      rw [hel]
      unfold outD ntl someL
      rw [List.map_map]
      rfl
    refine sds_set 7 (d := .lst (ntl ((someL (spotsL l) b).take many))) (ed_is (ed_slL (ed_is (ed_lcIf (own := [("_law_spot", 8), ("_law_at", 4)]) (δi := fun i => (([some (.hb a (n + 1)), some (.sh (ts l)), some (.sh (.int many)), some (.sh (.lst (ntl (spotsL l)))), none, some (.sh (.int (first : Nat))), some (.mu []), none, none] : De).set 8 (some (.sh (.int (i : Nat))))).set 4 (some (.sh (.int ((spotsL l).getD i 0 : Nat))))) (b := b) (f := fun i => .int ((spotsL l).getD i 0 : Nat)) (id_enum (ea_cons (ed_var 3) ea_nil) Z.f_enumerate) (blkOk_by (by kernel_rfl)) S_L_worst.nd (by rw [hel]; omega) (two_none rfl rfl) (fun s H C cl fp i d hd => ?_) (fun s H C cl fp i hi => ?_) (fun s H C cl fp i hi hbi => ed_var 4)) (congrArg Dt.lst eout)) eo_none (eo_some (ed_var 2))) ?_) ?_ S_L_worst.nd
    · have hil : i < (spotsL l).length := by rw [← hel]; exact (List.getElem?_eq_some_iff.mp hd).1
      have hx := enumD_get (ds := ntl (spotsL l)) (i := i) (d := .int ((spotsL l)[i] : Nat)) (ntl_get (List.getElem?_eq_getElem hil))
      rw [hx] at hd
      cases hd
      have e : (spotsL l).getD i 0 = (spotsL l)[i] := by simp [List.getD_eq_getElem?_getD, hil]
      rw [e]
      exact gd_tup (gds_cons (gd_name 8 S_L_worst.nd) (gds_cons (gd_name 4 S_L_worst.nd) gds_nil))
    · exact et_w (ew_and (et_cmp (ed_var 8) (ed_var 5) opd_ge) fun _ => ew_and1 (et_cmp (ed_op (ed_ct (ea_cons (ed_op (ed_var 8) (ed_var 5) opd_sub) ea_nil) cld_intI Z.f_int) ed_int (opd_mod (by decide))) ed_int opd_eq))
    · rw [cutG_to]
      unfold ntl
      rw [List.map_take]
    -- the losses
    generalize hso : (someL (spotsL l) b).take many = so
    have so_len : so.length ≤ many := by rw [← hso, List.length_take]; exact Nat.min_le_left _ _
    have so_mem : ∀ p ∈ so, p < l.length ∧ l[p]? = some 32 := fun p hp => by
      rw [← hso] at hp
      exact spots_lt p (some_mem p (List.mem_of_mem_take hp))
    have so_up : so.Pairwise (· < ·) := by
      rw [← hso]
      exact (some_up (spots_up l)).sublist (List.take_sublist _ _)
    have rv_dn : so.reverse.Pairwise (· > ·) := List.pairwise_reverse.mpr so_up
    have rv_mem : ∀ p ∈ so.reverse, p < l.length ∧ l[p]? = some 32 := fun p hp => so_mem p (List.mem_reverse.mp hp)
    have ervl : (ntl so).reverse = ntl so.reverse := by simp [ntl]
    refine sds_cons (M := fun δ' => ∃ o4, δ' = [some (.hb a (n + 1)), some (.sh (ts l)), some (.sh (.int many)), some (.sh (.lst (ntl (spotsL l)))), o4, some (.sh (.int (first : Nat))), some (.mu ((so.reverse.map Ed.lost).map Ed.dt)), some (.sh (.lst (ntl so))), none]) (sd_for (vs := [4]) (δt := fun i δ' => δ'.set 4 (some (.sh ((ntl so.reverse).getD i .non))))
      (fun i δ' => ∃ o4, δ' = [some (.hb a (n + 1)), some (.sh (ts l)), some (.sh (.int many)), some (.sh (.lst (ntl (spotsL l)))), o4, some (.sh (.int (first : Nat))), some (.mu (((so.reverse.take i).map Ed.lost).map Ed.dt)), some (.sh (.lst (ntl so))), none]) (id_list (ed_is (ed_revL (ed_var 7)) (by rw [ervl]))) ⟨none, rfl⟩ ?_ ?_ ?_) ?_
    · rintro i d δ' hd ⟨o4, rfl⟩
      rw [getD_of hd]
      exact gd_name 4 S_L_worst.nd
    · rintro i d δ' hd ⟨o4, rfl⟩
      rw [getD_of hd]
      unfold ntl at hd
      rw [List.getElem?_map] at hd
      obtain ⟨p, hp, rfl⟩ := Option.map_eq_some_iff.mp hd
      refine sds_append (ds := ((so.reverse.take i).map Ed.lost).map Ed.dt) 6 (ed_tup (ea_cons ed_str (ea_cons (ed_var 4) ea_nil))) (by simp; omega) (sds_nil ⟨some (.sh (.int (p : Nat))), ?_⟩)
      rw [List.take_succ, hp, List.map_append, List.map_append]
      rfl
    · rintro δ' ⟨o4, rfl⟩
      rw [ntl_len, List.take_length]
      exact ⟨o4, rfl⟩
    rintro δ' ⟨o4, rfl⟩
    have fin : ∀ {n' : Nat} {es : List Ed} {o : Option Sd}, n' ≤ n + 2 → es.length ≤ many → chainE l es → SDs (cxOf CX0 P w K mg base N_L_worst "_law_worst" (defScope s_L_worst) (He.fAd K ("_law_worst", none)) cdv A outer s H E).nox [a] [some (.hb a n'), some (.sh (ts l)), some (.sh (.int many)), some (.sh (.lst (ntl (spotsL l)))), o, some (.sh (.int (first : Nat))), some (.mu (es.map Ed.dt)), some (.sh (.lst (ntl so))), none] ((defBody s_L_worst).drop 5) { rt := fun d δ' => ∃ n' s', δ'[0]? = some (some s') ∧ IsHb a n' s' ∧ Φ d n', nx := fun δ' => ∃ n' s', δ'[0]? = some (some s') ∧ IsHb a n' s' ∧ Φ .non n' } := fun {n' es o} g1 g2 g3 => sds_frz 6 (sds_ret (ed_var 6) ⟨n + 2, .hb a n', rfl, ⟨rfl, g1⟩, hΦ es g2 g3⟩)
    have base0 : chainE l (so.reverse.map Ed.lost) := lost_chain rv_dn (fun p hp => (rv_mem p hp).1) (by omega)
    refine sds_ifX (F := hbF a) (i := 0) (x0 := n + 1) (Θ := fun k (n' : Nat) => n' = n + 2 ∧ (k = true → so.reverse ≠ [])) (fun δ' => ∃ (n' : Nat) (es : List Ed), n' = n + 2 ∧ es.length ≤ many ∧ chainE l es ∧ δ' = [some (.hb a n'), some (.sh (ts l)), some (.sh (.int many)), some (.sh (.lst (ntl (spotsL l)))), o4, some (.sh (.int (first : Nat))), some (.mu (es.map Ed.dt)), some (.sh (.lst (ntl so))), none])
      (etf_and1 (Ψ := fun _ (n' : Nat) => n' = n + 2) (etf_cmp (fun d (n' : Nat) => n' = n + 2 ∧ ∃ k : Nat, d = .int (k : Nat)) (ef_tide (n := n + 1) Z hr ed_int (by decide) (by decide) (by omega) fun k hk => ⟨rfl, k, rfl⟩) fun d n' ⟨e1, k, e2⟩ => by
        subst e1 e2
        exact ⟨_, ed_int, _, opd_eq, rfl⟩) (fun n' e1 => by
        subst e1
        exact ⟨_, et_frz 6 (et_cmp (ed_var 6) (ed_lst ea_nil) (opd_neNilE hr.units)), rfl, fun h => by simpa using h⟩) fun n' e1 => ⟨e1, fun z => nomatch z⟩) (fun n' ⟨e1, hne⟩ => ?_) (fun n' ⟨e1, _⟩ => ?_) ?_
    · subst e1
      obtain ⟨q, qs, hq⟩ : ∃ q qs, so.reverse = q :: qs := by
        cases h : so.reverse with
        | nil => exact absurd h (hne rfl)
        | cons q qs => exact ⟨q, qs, rfl⟩
      rw [hq] at rv_dn rv_mem base0 ⊢
      have hq1 := rv_mem q (List.mem_cons_self ..)
      have hq2 := hb q hq1.2
      have c1 : chainE l ((q + 1) :: qs |>.map Ed.lost) := lost_chain (by
        refine List.pairwise_cons.mpr ⟨fun p hp => ?_, (List.pairwise_cons.mp rv_dn).2⟩
        have := (List.pairwise_cons.mp rv_dn).1 p hp
        omega) (fun p hp => by
        rcases List.mem_cons.mp hp with rfl | hp
        · exact hq2
        · exact (rv_mem p (List.mem_cons_of_mem _ hp)).1) (by omega)
      have hlen : (q :: qs).length ≤ many := by rw [← hq, List.length_reverse]; exact so_len
      exact sds_setMu (ds := ((q :: qs).map Ed.lost).map Ed.dt) (d := (Ed.lost (q + 1)).dt) 6 (j := 0) (ed_tup (ea_cons ed_str (ea_cons (ed_is (ed_op (ed_ixT (d := .int (q : Nat)) (ed_ixMu (ds := ((q :: qs).map Ed.lost).map Ed.dt) (d := (Ed.lost q).dt) (j := ((0 : Nat) : Int)) 6 ed_int (by rw [atI_nat]; rfl)) ed_int rfl) ed_int opd_add) rfl) ea_nil))) ed_int (by simp) (sds_nil ⟨n + 2, ((q + 1) :: qs).map Ed.lost, rfl, by simpa using hlen, c1, rfl⟩)
    · subst e1
      exact sds_nil ⟨n + 2, so.reverse.map Ed.lost, rfl, by simp; exact so_len, base0, rfl⟩
    · rintro δ' ⟨n', es, e1, g2, g3, rfl⟩
      exact fin (by omega) g2 g3
def RHurt (n : Nat) (ds : List Dt) (Φ : Dt → Nat → Prop) : Prop := ∃ (l : List Nat) (many : Nat), (∀ i, l[i]? = some 32 → i + 1 < l.length) ∧ (∀ c ∈ l, sign c) ∧ l.length ≤ 50000 ∧ many ≤ 12 ∧ n ≤ 700000 ∧ ds = [ts l, .int many] ∧ ∀ es : List Ed, es.length ≤ many → chainE l es → Φ (.tup [eds es, ts (runE l es)]) (n + 50)
theorem dmg_eq : ("abcde  z" : Str) = mk [97, 98, 99, 100, 101, 32, 32, 122] := by decide +kernel
theorem h_hurt (Z : Zc K mg) : FnH P w K mg base 5 "_law_hurt" RHurt 3 :=
  Z.mkH_L_hurt fun cdv A outer s H E a n ds Φ hr ⟨l, many, hb, hs, hl, hm, hn, e, hΦ⟩ => by
    subst e
    have e0 : Dt.str "abcde  z" = ts [97, 98, 99, 100, 101, 32, 32, 122] := by rw [dmg_eq]
    refine sds_ifX (F := hbF a) (i := 0) (x0 := n) (Θ := fun _ (n' : Nat) => n' = n + 1) (fun δ' => δ' = [some (.hb a (n + 1)), some (.sh (ts l)), some (.sh (.int many)), none, none, none]) (etf_cmp (fun d (n' : Nat) => n' = n + 1 ∧ ∃ k : Nat, d = .int (k : Nat)) (ef_tide (n := n) Z hr ed_int (by decide) (by decide) (by omega) fun k hk => ⟨rfl, k, rfl⟩) fun d n' ⟨e1, k, e2⟩ => by
      subst e1 e2
      exact ⟨_, ed_int, _, opd_eq, rfl⟩) (fun n' e1 => ?_) (fun n' e1 => by subst e1; exact sds_nil rfl) (fun δ' e1 => ?_)
    · subst e1
      refine sds_retF (F := hbF a) (i := 0) (x0 := n + 1) (Φ := fun d (n' : Nat) => n' = n + 38 ∧ ∃ es : List Ed, es.length ≤ many ∧ chainE l es ∧ d = .tup [eds es, ts (runE l es)]) (ef_callH (h_damage Z) hr (Ψ := fun ds (n' : Nat) => n' = n + 2 ∧ ∃ k : Nat, k ≤ many ∧ ds = [ts l, .int (k : Nat), ts [97, 98, 99, 100, 101, 32, 32, 122]]) (eaf_cons (fun d (n' : Nat) => n' = n + 1 ∧ d = ts l) (ef_ed (F := hbF a) (i := 0) (n + 1) (ed_var 1) ⟨rfl, rfl⟩) fun d n' ⟨e1, e2⟩ => ?_) fun ds n' ⟨e1, k, hk, e2⟩ => ?_) ?_
      · subst e1 e2
        refine eaf_cons (fun d (n' : Nat) => n' = n + 2 ∧ ∃ k : Nat, k ≤ many ∧ d = .int (k : Nat)) (ef_tide (n := n + 1) (many := many + 1) Z hr (ed_is (ed_op (ed_var 2) ed_int opd_add) rfl) (by omega) (by omega) (by omega) fun k hk => ⟨rfl, k, by omega, rfl⟩) fun d n' ⟨e1, k, hk, e2⟩ => ?_
        subst e1 e2
        exact eaf_ea (F := hbF a) (n + 2) (ea_cons (ed_is ed_str e0) ea_nil) ⟨rfl, k, hk, rfl⟩
      · subst e1 e2
        exact ⟨rfl, l, _, k, by simp, by decide, by decide, hl, by omega, (by show n + 2 ≤ 800000; omega), rfl, fun es g1 g2 => ⟨rfl, es, by omega, g2, rfl⟩⟩
      · rintro d n' ⟨e1, es, g1, g2, rfl⟩
        subst e1
        exact ⟨n + 50, .hb a (n + 38), rfl, ⟨rfl, by omega⟩, hΦ es g1 g2⟩
    · subst e1
      refine sds_par2F (F := hbF a) (i := 0) (x0 := n + 1) 3 4 (Θ := fun ds (n' : Nat) => n' = n + 3 ∧ ∃ es : List Ed, es.length ≤ many ∧ chainE l es ∧ ds = [eds es, ts l]) (eaf_cons (fun d (n' : Nat) => n' = n + 3 ∧ ∃ es : List Ed, es.length ≤ many ∧ chainE l es ∧ d = eds es) (ef_callH (h_worst Z) hr (Ψ := fun ds (n' : Nat) => n' = n + 1 ∧ ds = [ts l, .int (many : Nat)]) (eaf_ea (F := hbF a) (n + 1) (ea_cons (ed_var 1) (ea_cons (ed_var 2) ea_nil)) ⟨rfl, rfl⟩) fun ds n' ⟨e1, e2⟩ => by
        subst e1 e2
        exact ⟨rfl, l, many, hb, hl, hm, (by show n + 1 ≤ 800000; omega), rfl, fun es g1 g2 => ⟨rfl, es, g1, g2, rfl⟩⟩) fun d n' ⟨e1, es, g1, g2, e2⟩ => by
          subst e1 e2
          exact eaf_ea (F := hbF a) (n + 3) (ea_cons (ed_var 1) ea_nil) ⟨rfl, es, g1, g2, rfl⟩) ?_ S_L_hurt.nd
      rintro ds n' ⟨e1, es, g1, g2, e2⟩
      subst e1 e2
      refine ⟨_, _, rfl, ?_⟩
      have hrl := run_len g2
      refine sds_cons (M := fun δ' => ∃ o, δ' = [some (.hb a (n + 3)), some (.sh (ts l)), some (.sh (.int many)), some (.sh (eds es)), some (.sh (ts (runE l es))), o]) (sd_for (vs := [5]) (δt := fun i δ' => δ'.set 5 (some (.sh ((es.map Ed.dt).getD i .non)))) (fun i δ' => ∃ o, δ' = [some (.hb a (n + 3)), some (.sh (ts l)), some (.sh (.int many)), some (.sh (eds es)), some (.sh (ts (runE l (es.take i)))), o]) (id_list (ed_var 3)) ⟨none, rfl⟩ ?_ ?_ ?_) ?_
      · rintro i d δ' hd ⟨o, rfl⟩
        rw [getD_of hd]
        exact gd_name 5 S_L_hurt.nd
      · rintro i d δ' hd ⟨o, rfl⟩
        rw [getD_of hd]
        rw [List.getElem?_map] at hd
        obtain ⟨e, he, rfl⟩ := Option.map_eq_some_iff.mp hd
        obtain ⟨hc, hz⟩ := chain_at g2 he
        refine sds_set 4 (ed_call (p_L_done Z) hr (ea_cons (ed_var 4) (ea_cons (ed_var 5) ea_nil)) ⟨_, e, hc, hz, rfl, rfl⟩) (sds_nil ⟨some (.sh e.dt), ?_⟩) S_L_hurt.nd
        rw [run_succ he]
        rfl
      · rintro δ' ⟨o, rfl⟩
        rw [List.length_map, List.take_length]
        exact ⟨o, rfl⟩
      · rintro δ' ⟨o, rfl⟩
        exact sds_ret (ed_tup (ea_cons (ed_var 3) (ea_cons (ed_var 4) ea_nil))) ⟨n + 50, .hb a (n + 3), rfl, ⟨rfl, by omega⟩, hΦ es g1 g2⟩
end
end AP
end
/-! AP14 -/
section
set_option Elab.async false
set_option linter.all false
set_option maxRecDepth 100000
set_option maxHeartbeats 4000000
namespace AP
open PySem PySem.Spec PyProof.Rows L2 AL AZ
/-- xs.index(x), xs a list of texts -/
theorem ed_index {X : Cx} {δ : De} {o e : Expr} {z : Str} {ys : List Str} {apos pos : Pos} (ho : ED X δ o (.lst (ys.map .str))) (he : ED X δ e (.str z)) (hz : z ∈ ys)
    (hbase : attributeBase o "index" X.env (eval o X.env) = eval o X.env := by rfl)
    (hfew : ((backTo pos (starEach [e] X.env)).all (fun x => !x.1) && (backToKw pos (keywordEach [] X.env)).all (fun x => x.1.isSome)
      && decide (([e] : List Expr).length + ([] : List Keyword).length + (if ([] : List Keyword).isEmpty then 0 else 1) < 30)) = true := by rfl)
    (hline : (apos.endLine == pos.line) = true := by rfl) (hst : starEach [e] X.env = (false, eval e X.env) :: starEach [] X.env := by rfl) : ED X δ (.Call (.Attribute o "index" apos) [e] [] pos) (.int (ys.idxOf z : Nat)) :=
  PE.imp (pe_bm PySem.F.plainAttrs_list PySem.F.slot_list_index PySem.F.type_list_index mt_index ho (pa_cons he pa_nil hst) hbase hfew hline hst rfl) fun σ H Q ⟨O, G, e, s, q⟩ => ⟨O, G, e, s, fun v G1 H1 f1 r1 => by
    cases r1 with
    | lst hx rx =>
    obtain rfl := rx.of_strs
    refine ⟨.inl ⟨rfl, _, .of (f1.s _ _ hx)⟩, O, G1, f1.s, s.mono f1, fun w G2 H2 f2 r2 => ?_⟩
    cases r2
    have hl := List.idxOf_lt_length_of_mem hz
    refine ⟨_, ys.map V.str, .str z, ys.idxOf z, .str z, rfl, rfl, .of (f2.s _ _ (f2.g _ _ hx)), rfl, AL.flat_strs ys, ?_, ?_, fun m z' hm hz' => ?_, q _ G2 H2 (f1.trans f2) (.int _)⟩
    · rw [List.getElem?_map, List.getElem?_eq_getElem hl, List.getElem_idxOf hl]
      rfl
    · show (z == z) = true
      exact beq_self_eq_true z
    · rw [List.getElem?_map] at hz'
      obtain ⟨y, hy, rfl⟩ := Option.map_eq_some_iff.mp hz'
      show (y == z) = false
      refine beq_eq_false_iff_ne.mpr fun e => ?_
      have h1 : m < ys.length := Nat.lt_trans hm hl
      have h2 := List.not_of_lt_findIdx (p := (· == z)) (xs := ys) hm
      rw [List.getElem?_eq_getElem h1] at hy
      have h3 : ys[m] = z := (Option.some.inj hy).trans e
      rw [h3] at h2
      simp at h2⟩
section
variable {P : Program} {w : World} {K : PySem.W.Frag} {mg : Str → Option Value} {base : Heap}
/-! ### prices by the law's own rule -/
def costsL (ws : List (List Nat)) : List Nat := ws.flatMap fun w => (ws.filter fun o => !decide (o = w)).map fun o => min (max w.length o.length) (o.length + 1)
def costsOf (ws : List (List Nat)) (w : List Nat) : List Nat := (ws.filter fun o => !decide (o = w)).map fun o => min (max w.length o.length) (o.length + 1)
theorem costs_take {ws us : List (List Nat)} {i : Nat} {w : List Nat} (h : us[i]? = some w) : ((us.take (i + 1)).flatMap (costsOf ws)) = ((us.take i).flatMap (costsOf ws)) ++ costsOf ws w := by
  rw [List.take_succ, h]
  simp
theorem costsOf_len (ws : List (List Nat)) (w : List Nat) : (costsOf ws w).length ≤ ws.length := by
  unfold costsOf
  rw [List.length_map]
  exact List.length_filter_le _ _
theorem flat_len (ws : List (List Nat)) : ∀ us : List (List Nat), (us.flatMap (costsOf ws)).length ≤ us.length * ws.length
  | [] => by simp
  | u :: us => by
    rw [List.flatMap_cons, List.length_append, List.length_cons, Nat.succ_mul]
    have h1 := costsOf_len ws u
    have h2 := flat_len ws us
    omega
theorem p_L_price (Z : Zc K mg) : FnP P w K mg base 1 "_law_price" (fun ds d => ∃ (ws : List (List Nat)) (m : Nat), ws.length ≤ 40 ∧ (∀ w ∈ ws, w.length ≤ 12) ∧ m ∈ costsL ws ∧ (∀ y ∈ costsL ws, m ≤ y) ∧ ds = [.lst (wordsD ws)] ∧ d = .int (m : Nat)) 1 [] :=
  Z.mk_L_price fun cdv A outer s H E ds d hr ⟨ws, m, h1, h2, h3, h4, e1, e2⟩ => by
    subst e1 e2
    have hwl : (wordsD ws).length = ws.length := by simp [wordsD]
    refine sds_mk 1 ea_nil ?_ S_L_price.nd
    refine sds_cons (M := fun δ' => ∃ o, δ' = [some (.sh (.lst (wordsD ws))), some (.mu (ntl (costsL ws))), o, none]) (sd_for (vs := [2]) (δt := fun i δ' => δ'.set 2 (some (.sh ((wordsD ws).getD i .non)))) (fun i δ' => ∃ o, δ' = [some (.sh (.lst (wordsD ws))), some (.mu (ntl ((ws.take i).flatMap (costsOf ws)))), o, none]) (id_list (ed_var 0)) ⟨none, rfl⟩ ?_ ?_ ?_) ?_
    · rintro i d δ' hd ⟨o, rfl⟩
      rw [getD_of hd]
      exact gd_name 2 S_L_price.nd
    · rintro i d δ' hd ⟨o, rfl⟩
      rw [getD_of hd]
      unfold wordsD at hd
      rw [List.getElem?_map] at hd
      obtain ⟨u, hu, rfl⟩ := Option.map_eq_some_iff.mp hd
      have hu12 := h2 u (List.mem_of_getElem? hu)
      have hil : i < ws.length := (List.getElem?_eq_some_iff.mp hu).1
      have eL : ((wordsD ws).filter (fun d => match d with | .str z => !decide (z.cps.toList = u) | _ => false)).map (fun d => match d with | .str z => Dt.int (min (max u.length z.cps.toList.length) (z.cps.toList.length + 1) : Nat) | _ => .non) = ntl (costsOf ws u) := by
        unfold wordsD costsOf ntl
        rw [List.filter_map, List.map_map, List.map_map]
        rfl
      have fl := flat_len ws (ws.take i)
      have cl := costsOf_len ws u
      rw [List.length_take] at fl
      have b1 : min i ws.length * ws.length ≤ 40 * 40 := Nat.mul_le_mul (by omega) h1
      refine sds_extend (ds := ntl ((ws.take i).flatMap (costsOf ws))) (ds2 := ntl (costsOf ws u)) 1 (ed_is (ed_lcMIf 3 (fun d => match d with | .str z => !decide (z.cps.toList = u) | _ => false) (fun d => match d with | .str z => .int (min (max u.length z.cps.toList.length) (z.cps.toList.length + 1) : Nat) | _ => .non) (id_list (ed_var 0)) (blkOk_by (by kernel_rfl)) S_L_price.nd (fun s H C cl fp d hd => ?_) (fun s H C cl fp d hd hb => ?_) (by omega)) (congrArg Dt.lst eL)) (by rw [ntl_len, ntl_len]; omega) (sds_nil ⟨some (.sh (ts u)), ?_⟩)
      · obtain ⟨x, hx, rfl⟩ := List.mem_map.mp hd
        exact et_cmp (ed_var 3) (ed_var 2) opd_nes
      · obtain ⟨x, hx, rfl⟩ := List.mem_map.mp hd
        have hx12 := h2 x hx
        refine ed_is (ed_cb (ea_cons (ed_cb (ea_cons (ed_cb (ea_cons (ed_var 2) ea_nil) (cld_lens (by omega)) Z.f_len) (ea_cons (ed_cb (ea_cons (ed_var 3) ea_nil) (cld_lens (by omega)) Z.f_len) ea_nil)) cld_max2 Z.f_max) (ea_cons (ed_op (ed_cb (ea_cons (ed_var 3) ea_nil) (cld_lens (by omega)) Z.f_len) ed_int opd_add) ea_nil)) cld_min2 Z.f_min) ?_
        show Dt.int _ = Dt.int ((min (max u.length x.length) (x.length + 1) : Nat) : Int)
        congr 1
        split <;> split <;> omega
      · rw [costs_take hu]
        simp [ntl]
    · rintro δ' ⟨o, rfl⟩
      rw [hwl, List.take_length]
      exact ⟨o, rfl⟩
    · rintro δ' ⟨o, rfl⟩
      refine sds_frz 1 ?_
      have hne : (costsL ws).map (fun (n : Nat) => (n : Int)) ≠ [] := fun z => by
        have := List.map_eq_nil_iff.mp z
        rw [this] at h3
        cases h3
      refine sds_ret (ed_ifT (et_cmp (ed_is (ed_var 1) (show Dt.lst (ntl (costsL ws)) = _ by rw [ntl_eq])) (ed_lst ea_nil) (opd_b (opd_neNil hr.units) (by simp [hne]))) (ed_cb (ea_cons (ed_is (ed_var 1) (show Dt.lst (ntl (costsL ws)) = _ by rw [ntl_eq])) ea_nil) (cld_min (m := (m : Int)) (List.mem_map.mpr ⟨m, h3, rfl⟩) fun y hy => ?_) Z.f_min)) rfl
      obtain ⟨k, hk, rfl⟩ := List.mem_map.mp hy
      have := h4 k hk
      omega
/-! ### deeds by flags -/
def raiseF (m : Nat) : List Nat := (List.range (2 * m)).map fun s => if s % 2 = 0 then s + 1 else s
def deedF (m : Nat) (d : List Nat) : List Nat := (List.range (2 * m)).map fun s => if s % 2 = 0 then s else 2 * d.getD (s / 2) 0
def flagsL (m : Nat) (pl : List (List Nat)) : List (List Nat) := raiseF m :: pl.map (deedF m)
theorem fmod2 (k : Nat) : Int.fmod (k : Int) 2 = ((k % 2 : Nat) : Int) := by
  rw [Int.fmod_eq_emod_of_nonneg _ (by decide)]
  simp
theorem fdiv2 (k : Nat) : Int.fdiv (k : Int) 2 = ((k / 2 : Nat) : Int) := by
  rw [Int.fdiv_eq_ediv_of_nonneg _ (by decide)]
  simp
theorem p_L_flags (Z : Zc K mg) : FnP P w K mg base 1 "_law_flags" (fun ds d => ∃ (pl : List (List Nat)) (m : Nat), 1 ≤ pl.length ∧ pl.length ≤ 40 ∧ m ≤ 40 ∧ (∀ d ∈ pl, d.length = m) ∧ ds = [.lst (deedsL pl)] ∧ d = .lst (deedsL (flagsL m pl))) 1 [] :=
  Z.mk_L_flags fun cdv A outer s H E ds d hr ⟨pl, m, h1, h2, h3, h4, e1, e2⟩ => by
    subst e1 e2
    have hpl : (deedsL pl).length = pl.length := by simp [deedsL]
    obtain ⟨p0, pr, hp0⟩ : ∃ a b, pl = a :: b := by
      cases pl with
      | nil => simp at h1
      | cons a b => exact ⟨a, b, rfl⟩
    have hm0 : p0.length = m := h4 p0 (by rw [hp0]; exact List.mem_cons_self ..)
    have h0 : (deedsL pl)[0]? = some (.lst (ntl p0)) := by rw [hp0]; rfl
    have hrl : rangeD 0 ((2 : Int) * (m : Int)).toNat = ntl (List.range (2 * m)) := by
      rw [show ((2 : Int) * (m : Int)).toNat = 2 * m by omega]
      exact range_nat _
    refine sds_set 1 (d := .int (m : Nat)) (ed_is (ed_cb (ea_cons (ed_at_intL (i := 0) (ed_var 0) ed_int h0) ea_nil) cld_lenL Z.f_len) (by rw [ntl_len, hm0])) ?_ S_L_flags.nd
    refine sds_mk (ds := [.lst (ntl (raiseF m))]) 2 (ea_cons (ed_is (ed_lcM 3 (fun d => .int (if d.n % 2 = 0 then d.n + 1 else d.n : Nat)) (id_range1 (ea_cons (ed_op ed_int (ed_var 1) (opd_mul (.inl ⟨by decide, by decide⟩))) ea_nil) (by omega) Z.f_range) (blkOk_by (by kernel_rfl)) S_L_flags.nd (fun s H C cl fp d hd => ?_) (by rw [hrl, ntl_len]; simp; omega)) ?_) ea_nil) ?_ S_L_flags.nd
    · rw [hrl] at hd
      obtain ⟨k, hk, rfl⟩ := ntl_mem hd
      refine ed_if (k := decide (((k % 2 : Nat) : Int) = 0)) (et_is (et_cmp (ed_op (ed_var 3) ed_int (opd_mod (by decide))) ed_int opd_eq) (by rw [fmod2])) (fun h => ?_) (fun h => ?_)
      · have h' : k % 2 = 0 := by have := of_decide_eq_true h; omega
        refine ed_is (ed_op (ed_var 3) ed_int opd_add) ?_
        show _ = Dt.int ((if k % 2 = 0 then k + 1 else k : Nat) : Int)
        rw [if_pos h']
        rfl
      · have h' : ¬ k % 2 = 0 := by have := of_decide_eq_false h; omega
        refine ed_is (ed_var 3) ?_
        show _ = Dt.int ((if k % 2 = 0 then k + 1 else k : Nat) : Int)
        rw [if_neg h']
    · rw [hrl]
      unfold ntl raiseF
      rw [List.map_map, List.map_map]
      rfl
    refine sds_cons (M := fun δ' => ∃ o, δ' = [some (.sh (.lst (deedsL pl))), some (.sh (.int (m : Nat))), some (.mu (deedsL (flagsL m pl))), none, o]) (sd_for (vs := [4]) (δt := fun i δ' => δ'.set 4 (some (.sh ((deedsL pl).getD i .non)))) (fun i δ' => ∃ o, δ' = [some (.sh (.lst (deedsL pl))), some (.sh (.int (m : Nat))), some (.mu (deedsL (flagsL m (pl.take i)))), none, o]) (id_list (ed_var 0)) ⟨none, rfl⟩ ?_ ?_ ?_) ?_
    · rintro i d δ' hd ⟨o, rfl⟩
      rw [getD_of hd]
      exact gd_name 4 S_L_flags.nd
    · rintro i d δ' hd ⟨o, rfl⟩
      rw [getD_of hd]
      unfold deedsL at hd
      rw [List.getElem?_map] at hd
      obtain ⟨u, hu, rfl⟩ := Option.map_eq_some_iff.mp hd
      have hum := h4 u (List.mem_of_getElem? hu)
      refine sds_append (ds := deedsL (flagsL m (pl.take i))) (d := .lst (ntl (deedF m u))) 2 (ed_is (ed_lcM 3 (fun d => .int (if d.n % 2 = 0 then d.n else 2 * u.getD (d.n / 2) 0 : Nat)) (id_range1 (ea_cons (ed_op ed_int (ed_var 1) (opd_mul (.inl ⟨by decide, by decide⟩))) ea_nil) (by omega) Z.f_range) (blkOk_by (by kernel_rfl)) S_L_flags.nd (fun s H C cl fp d hd => ?_) (by rw [hrl, ntl_len]; simp; omega)) ?_) (by simp [deedsL, flagsL]; omega) (sds_nil ⟨some (.sh (.lst (ntl u))), ?_⟩)
      · rw [hrl] at hd
        obtain ⟨k, hk, rfl⟩ := ntl_mem hd
        have hk2 := List.mem_range.mp hk
        refine ed_if (k := decide (((k % 2 : Nat) : Int) = 0)) (et_is (et_cmp (ed_op (ed_var 3) ed_int (opd_mod (by decide))) ed_int opd_eq) (by rw [fmod2])) (fun h => ?_) (fun h => ?_)
        · have h' : k % 2 = 0 := by have := of_decide_eq_true h; omega
          refine ed_is (ed_var 3) ?_
          show _ = Dt.int ((if k % 2 = 0 then k else 2 * u.getD (k / 2) 0 : Nat) : Int)
          rw [if_pos h']
        · have h' : ¬ k % 2 = 0 := by have := of_decide_eq_false h; omega
          have hq : k / 2 < u.length := by omega
          have hg : u.getD (k / 2) 0 = u[k / 2] := by simp [List.getD_eq_getElem?_getD, hq]
          refine ed_is (ed_op ed_int (ed_at_intL (i := k / 2) (ed_var 4) (ed_is (ed_op (ed_var 3) ed_int (opd_fdiv ⟨by decide, by decide⟩)) (by rw [fdiv2])) (ntl_get (List.getElem?_eq_getElem hq))) (opd_mul (.inl ⟨by decide, by decide⟩))) ?_
          show Dt.int ((2 : Int) * (u[k / 2] : Int)) = Dt.int ((if k % 2 = 0 then k else 2 * u.getD (k / 2) 0 : Nat) : Int)
          rw [if_neg h', hg]
          simp
      · rw [hrl]
        unfold ntl deedF
        rw [List.map_map, List.map_map]
        rfl
      · rw [List.take_succ, hu]
        simp [flagsL, deedsL]
    · rintro δ' ⟨o, rfl⟩
      rw [hpl, List.take_length]
      exact ⟨o, rfl⟩
    · rintro δ' ⟨o, rfl⟩
      exact sds_frz 2 (sds_ret (ed_var 2) rfl)
end
end AP
end
/-! AP15 -/
section
set_option Elab.async false
set_option linter.all false
set_option maxRecDepth 100000
set_option maxHeartbeats 4000000
namespace AP
open PySem PySem.Spec PyProof.Rows L2 AL AZ
theorem idx_mk (p : List Nat) : ∀ ws : List (List Nat), (ws.map mk).idxOf (mk p) = ws.idxOf p
  | [] => rfl
  | w :: ws => by
    rw [List.map_cons, List.idxOf_cons, List.idxOf_cons, idx_mk p ws]
    have e : (mk w == mk p) = (w == p) := by
      by_cases h : w = p
      · subst h
        simp
      · have h2 : mk w ≠ mk p := fun z => h (mk_inj.mp z)
        rw [beq_eq_false_iff_ne.mpr h, beq_eq_false_iff_ne.mpr h2]
    rw [e]
theorem rep_words (w : List Nat) (n : Nat) : (List.replicate n [ts w]).flatten = wordsD (List.replicate n w) := by
  induction n with
  | zero => rfl
  | succ n ih =>
    rw [List.replicate_succ, List.flatten_cons, ih]
    rfl
theorem parts_take {ws : List (List Nat)} {r cs : List Nat} {i k : Nat} (h : r[i]? = some k) : partsM ws (r.take (i + 1)) cs = partsM ws (r.take i) cs ++ List.replicate (cs.getD k 0) (ws.getD k []) := by
  rw [List.take_succ, h]
  simp [partsM]
section
variable {P : Program} {w : World} {K : PySem.W.Frag} {mg : Str → Option Value} {base : Heap}
theorem p_L_spelled (Z : Zc K mg) : FnP P w K mg base 1 "_law_spelled" (fun ds d => ∃ (ws : List (List Nat)) (r cs : List Nat), TOk ws r cs ∧ (ds = [.lst (wordsD ws), .lst (ntl r), .lst (ntl cs)] ∨ ds = [.lst (wordsD ws), .tup (ntl r), .lst (ntl cs)]) ∧ d = ts (textM ws r cs)) 3 [] :=
  Z.mk_L_spelled fun cdv A outer s H E ds d hr ⟨ws, r, cs, ok, e1, e2⟩ => by
    subst e2
    have hn := ok.n
    have key : ∀ d1 : Dt, (∀ {X : Cx} {δ : De} {tg e : Expr}, ED X δ e d1 → (∀ x, foldedSetIterable e X.env x = pure x) → ID X δ tg e (ntl r)) → SDs (cxOf CX0 P w K mg base N_L_spelled "_law_spelled" (defScope s_L_spelled) (He.fAd K ("_law_spelled", none)) cdv A outer s H E).nox [] (argsD N_L_spelled [.lst (wordsD ws), d1, .lst (ntl cs)]) (defBody s_L_spelled) { rt := fun d' _ => d' = ts (textM ws r cs), nx := fun _ => ts (textM ws r cs) = .non } := fun d1 hid => by
      refine sds_set 3 (ed_lst ea_nil) ?_ S_L_spelled.nd
      refine sds_cons (M := fun δ' => ∃ o, δ' = [some (.sh (.lst (wordsD ws))), some (.sh d1), some (.sh (.lst (ntl cs))), some (.sh (.lst (wordsD (partsM ws r cs)))), o]) (sd_for (vs := [4]) (δt := fun i δ' => δ'.set 4 (some (.sh ((ntl r).getD i .non)))) (fun i δ' => ∃ o, δ' = [some (.sh (.lst (wordsD ws))), some (.sh d1), some (.sh (.lst (ntl cs))), some (.sh (.lst (wordsD (partsM ws (r.take i) cs)))), o]) (hid (ed_var 1) (by intro _; rfl)) ⟨none, rfl⟩ ?_ ?_ ?_) ?_
      · rintro i d δ' hd ⟨o, rfl⟩
        rw [getD_of hd]
        exact gd_name 4 S_L_spelled.nd
      · rintro i d δ' hd ⟨o, rfl⟩
        rw [getD_of hd]
        unfold ntl at hd
        rw [List.getElem?_map] at hd
        obtain ⟨k, hk, rfl⟩ := Option.map_eq_some_iff.mp hd
        have hk1 := ok.lr k (List.mem_of_getElem? hk)
        have hk2 : k < cs.length := by rw [ok.lc]; exact hk1
        have e1 : ws.getD k [] = ws[k] := by simp [List.getD_eq_getElem?_getD, hk1]
        have e2 : cs.getD k 0 = cs[k] := by simp [List.getD_eq_getElem?_getD, hk2]
        have b1 := ok.c12 _ (List.getElem_mem hk2)
        have pl := parts_len (ws := ws) (getD_le ok.c12) (r.take i)
        rw [List.length_take] at pl
        have hw1 : (wordsD (partsM ws (r.take i) cs)).length = (partsM ws (r.take i) cs).length := by simp [wordsD]
        have hrep : (List.replicate ((cs[k] : Nat) : Int).toNat [ts ws[k]]).flatten = wordsD (List.replicate cs[k] ws[k]) := rep_words _ _
        refine sds_set 3 (ed_op (ed_var 3) (ed_op (ed_lst (ea_cons (ed_at_intL (ed_var 0) (ed_var 4) (d := ts ws[k]) (by simp [wordsD, hk1])) ea_nil)) (ed_at_intL (ed_var 2) (ed_var 4) (ntl_get (List.getElem?_eq_getElem hk2))) (opd_rep (by omega) (by omega) (by simp; exact sl_le (by omega)))) (opd_cat (by rw [hrep, hw1]; simp [wordsD]; exact sl_le (by omega)))) (sds_nil ⟨some (.sh (.int (k : Nat))), ?_⟩) S_L_spelled.nd
        rw [hrep, parts_take hk, e1, e2]
        unfold wordsD
        rw [List.map_append]
        rfl
      · rintro δ' ⟨o, rfl⟩
        rw [ntl_len, List.take_length]
        exact ⟨o, rfl⟩
      · rintro δ' ⟨o, rfl⟩
        have hl : (partsM ws r cs).length ≤ 12000 := by
          have := parts_len (ws := ws) (getD_le ok.c12) r
          omega
        refine sds_ret (ed_is (ed_join (z := mk [32]) (ys := (partsM ws r cs).map mk) (ed_is ed_str (show Dt.str _ = Dt.str (mk [32]) by rw [← blank_eq])) (ed_is (ed_var 3) (by rw [words_eq])) ?_) ?_) rfl
        · have hs : ((partsM ws r cs).map mk).map (·.length) = (partsM ws r cs).map (·.length) := by simp [mk_len, Function.comp_def]
          rw [hs, List.length_map, mk_len]
          have := sum_le (l := (partsM ws r cs).map (·.length)) (b := 12) (fun x hx => by
            obtain ⟨p, hp, rfl⟩ := List.mem_map.mp hx
            obtain ⟨k, _, rfl⟩ := parts_word hp
            exact word_len ok.w12 k)
          rw [List.length_map] at this
          simp only [List.length_cons, List.length_nil]
          omega
        · show Dt.str (Txt.join (SX.S [32]) ((partsM ws r cs).map SX.S)) = _
          rw [SX.join_S]
          rfl
    rcases e1 with e1 | e1
    · subst e1
      exact key _ fun h hl => id_list h hl
    · subst e1
      exact key _ fun h hl => id_tup h
/-- the end of a text by the law's own reading -/
def endL (ws t : List (List Nat)) (l : List Nat) (st : Nat) : Nat := (itemsL l).foldl (fun s p => if p ∈ ws then (t.getD (ws.idxOf p) []).getD s 0 else s) st
theorem endL_read (ws t : List (List Nat)) (l : List Nat) (st : Nat) : endL ws t l st = endM t (readM ws l) st := by
  unfold endL readM endM
  rw [List.foldl_map]
  generalize itemsL l = is
  induction is generalizing st with
  | nil => rfl
  | cons p is ih =>
    rw [List.foldl_cons, List.filter_cons]
    by_cases h : p ∈ ws
    · simp only [h, decide_true, if_true, List.foldl_cons]
      exact ih _
    · simp only [h, decide_false, if_false]
      simpa using ih _
theorem p_L_end (Z : Zc K mg) : FnP P w K mg base 1 "_law_end" (fun ds d => ∃ (ws t : List (List Nat)) (n : Nat) (l : List Nat) (st : Nat), MOk t n ∧ ws.length = t.length ∧ l.length ≤ 90000 ∧ st < n ∧ ds = [.lst (wordsD ws), .lst (deedsL t), ts l, .int (st : Nat)] ∧ d = .int (endL ws t l st : Nat)) 4 [] :=
  Z.mk_L_end fun cdv A outer s H E ds d hr ⟨ws, t, n, l, st, ok, hw, hl, hst, e1, e2⟩ => by
    subst e1 e2
    let go := fun (s : Nat) (p : List Nat) => if p ∈ ws then (t.getD (ws.idxOf p) []).getD s 0 else s
    have glt : ∀ (is : List (List Nat)) (s : Nat), s < n → is.foldl go s < n := fun is => by
      induction is with
      | nil => exact fun s h => h
      | cons p is ih =>
        intro s h
        rw [List.foldl_cons]
        refine ih _ ?_
        show (if p ∈ ws then (t.getD (ws.idxOf p) []).getD s 0 else s) < n
        split
        · rename_i hp
          have h1 : ws.idxOf p < t.length := by rw [← hw]; exact List.idxOf_lt_length_of_mem hp
          have h2 : t.getD (ws.idxOf p) [] = t[ws.idxOf p] := by simp [List.getD_eq_getElem?_getD, h1]
          have h3 := List.getElem_mem h1
          have h4 : s < t[ws.idxOf p].length := by rw [ok.len _ h3]; exact h
          rw [h2]
          have h5 : t[ws.idxOf p].getD s 0 = t[ws.idxOf p][s] := by simp [List.getD_eq_getElem?_getD, h4]
          rw [h5]
          exact ok.lt _ h3 _ (List.getElem_mem h4)
        · exact h
    refine sds_cons (M := fun δ' => ∃ o, δ' = [some (.sh (.lst (wordsD ws))), some (.sh (.lst (deedsL t))), some (.sh (ts l)), some (.sh (.int (endL ws t l st : Nat))), o]) (sd_for (vs := [4]) (δt := fun i δ' => δ'.set 4 (some (.sh (((itemsL l).map ts).getD i .non)))) (fun i δ' => ∃ o, δ' = [some (.sh (.lst (wordsD ws))), some (.sh (.lst (deedsL t))), some (.sh (ts l)), some (.sh (.int (((itemsL l).take i).foldl go st : Nat))), o]) (id_list (ed_is (ed_split (z := mk l) (y := mk [32]) (ed_var 2) (ed_is ed_str (show Dt.str _ = Dt.str (mk [32]) by rw [← blank_eq])) rfl (by rw [mk_len]; exact sl_le (by omega))) (by rw [split_eq]))) ⟨none, rfl⟩ ?_ ?_ ?_) ?_
    · rintro i d δ' hd ⟨o, rfl⟩
      rw [getD_of hd]
      exact gd_name 4 S_L_end.nd
    · rintro i d δ' hd ⟨o, rfl⟩
      rw [getD_of hd]
      rw [List.getElem?_map] at hd
      obtain ⟨p, hp, rfl⟩ := Option.map_eq_some_iff.mp hd
      have hs := glt ((itemsL l).take i) st hst
      have en : ((itemsL l).take (i + 1)).foldl go st = go (((itemsL l).take i).foldl go st) p := by
        rw [List.take_succ, hp]
        simp [List.foldl_append]
      rw [en]
      generalize ((itemsL l).take i).foldl go st = s0 at *
      refine sds_if (fun δ' => ∃ o, δ' = [some (.sh (.lst (wordsD ws))), some (.sh (.lst (deedsL t))), some (.sh (ts l)), some (.sh (.int (go s0 p : Nat))), o]) (et_cmp (k := decide (mk p ∈ ws.map mk)) (ed_var 4) (ed_is (ed_var 0) (show Dt.lst (wordsD ws) = _ by rw [words_eq])) opd_inS) (fun h => ?_) (fun h => ?_) (fun δ' z => sds_nil z)
      · have hpw : p ∈ ws := by
          obtain ⟨q, hq, e⟩ := List.mem_map.mp (of_decide_eq_true h)
          rw [← mk_inj.mp e]
          exact hq
        have h1 : ws.idxOf p < t.length := by rw [← hw]; exact List.idxOf_lt_length_of_mem hpw
        have h2 : t.getD (ws.idxOf p) [] = t[ws.idxOf p] := by simp [List.getD_eq_getElem?_getD, h1]
        have h3 := List.getElem_mem h1
        have h4 : s0 < t[ws.idxOf p].length := by rw [ok.len _ h3]; exact hs
        have h5 : t[ws.idxOf p].getD s0 0 = t[ws.idxOf p][s0] := by simp [List.getD_eq_getElem?_getD, h4]
        have eg : go s0 p = t[ws.idxOf p][s0] := by
          show (if p ∈ ws then (t.getD (ws.idxOf p) []).getD s0 0 else s0) = _
          rw [if_pos hpw, h2, h5]
        have ei : (ws.map mk).idxOf (mk p) = ws.idxOf p := idx_mk p ws
        rw [eg]
        exact sds_set 3 (ed_at_intL (ed_at_intL (ed_var 1) (ed_is (ed_index (ys := ws.map mk) (z := mk p) (ed_is (ed_var 0) (show Dt.lst (wordsD ws) = _ by rw [words_eq])) (ed_var 4) (of_decide_eq_true h)) (by rw [ei])) (d := .lst (ntl t[ws.idxOf p])) (by simp [deedsL, h1])) (ed_var 3) (ntl_get (List.getElem?_eq_getElem h4))) (sds_nil ⟨some (.sh (ts p)), rfl⟩) S_L_end.nd
      · have hpw : ¬ p ∈ ws := fun z => of_decide_eq_false h (List.mem_map.mpr ⟨p, z, rfl⟩)
        have eg : go s0 p = s0 := if_neg hpw
        rw [eg]
        exact sds_nil ⟨some (.sh (ts p)), rfl⟩
    · rintro δ' ⟨o, rfl⟩
      rw [List.length_map, List.take_length]
      exact ⟨o, rfl⟩
    · rintro δ' ⟨o, rfl⟩
      exact sds_ret (ed_var 3) rfl
end
end AP
end
/-! AP16 -/
section
set_option Elab.async false
set_option linter.all false
set_option maxRecDepth 100000
set_option maxHeartbeats 4000000
namespace AP
open PySem PySem.Spec PyProof.Rows L2 AL AZ
theorem atI_last {α : Type} {xs : List α} (h : xs ≠ []) : L2.atI xs (-1) = xs[xs.length - 1]? := by
  have hl : 0 < xs.length := List.length_pos_iff.mpr h
  have e : ixN xs.length (-1) = some (xs.length - 1) := by
    unfold ixN
    simp
    omega
  unfold L2.atI
  rw [e]
  rfl
theorem id_is {X : Cx} {δ : De} {tg e : Expr} {ds ds' : List Dt} (h : ID X δ tg e ds) (q : ds = ds') : ID X δ tg e ds' := q ▸ h
/-! ### pairs (cost, begin) -/
abbrev Pr := Nat × Nat
def prD (p : Pr) : Dt := pairD (p.1 : Int) (p.2 : Int)
def minP (p q : Pr) : Pr := if q.1 < p.1 ∨ (q.1 = p.1 ∧ q.2 < p.2) then q else p
def raiseP (p : Pr) (k : Nat) : Pr := (p.1 + k, p.2)
def cutP (l : List Nat) (e : Nat) : Bool := decide (0 < e) && !decide (l[e - 1]? = some 32)
theorem cld_minPr {X : Cx} {p q : Pr} (hu : X.A.units + 64 < cLine) (hc : X.calm = true := by rfl) : ClD X (.builtin "min") [prD p, prD q] (prD (minP p q)) := by
  have h := cld_minP (X := X) (a := p.1) (b := p.2) (c := q.1) (d := q.2) hu hc
  have e : (if (q.1 : Int) < (p.1 : Int) ∨ ((q.1 : Int) = (p.1 : Int) ∧ (q.2 : Int) < (p.2 : Int)) then pairD (q.1 : Int) (q.2 : Int) else pairD (p.1 : Int) (p.2 : Int)) = prD (minP p q) := by
    unfold minP
    by_cases hlt : q.1 < p.1 ∨ (q.1 = p.1 ∧ q.2 < p.2)
    · rw [if_pos hlt, if_pos (by omega)]
      rfl
    · rw [if_neg hlt, if_neg (by omega)]
      rfl
  rw [e] at h
  exact h
def firstP (l : List Nat) (none : Pr) (last e : Nat) : Pr := if e ≤ last then ((if cutP l e then 1 else 0), e) else none
def cellP (l word : List Nat) (e : Nat) (prev r : List Pr) (m : Nat) : Pr :=
  if 0 < e then minP (minP (raiseP (r.getD m (0, 0)) 1) (raiseP (prev.getD (m + 1) (0, 0)) 1)) (raiseP (prev.getD m (0, 0)) (if l[e - 1]? = word[m]? then 0 else 1)) else raiseP (r.getD m (0, 0)) 1
def growP (l word : List Nat) (e : Nat) (prev : List Pr) (f : Pr) : Nat → List Pr
  | 0 => [if 0 < e then minP f (raiseP (prev.getD 0 (0, 0)) 1) else f]
  | m + 1 => growP l word e prev f m ++ [cellP l word e prev (growP l word e prev f m) m]
def noneP (l word : List Nat) : Pr := (3 * l.length + word.length + 9, 0)
def rowsP (l word : List Nat) (last : Nat) : Nat → List (List Pr)
  | 0 => []
  | e + 1 => rowsP l word last e ++ [growP l word e ((rowsP l word last e).getLastD []) (firstP l (noneP l word) last e) word.length]
def bestP (l word : List Nat) (last : Nat) : List (List Pr) := rowsP l word last (l.length + 1)
theorem grow_len (l word : List Nat) (e : Nat) (prev : List Pr) (f : Pr) : ∀ m, (growP l word e prev f m).length = m + 1
  | 0 => rfl
  | m + 1 => by
    show (growP l word e prev f m ++ [_]).length = _
    rw [List.length_append, grow_len l word e prev f m]
    rfl
theorem rows_len (l word : List Nat) (last : Nat) : ∀ e, (rowsP l word last e).length = e
  | 0 => rfl
  | e + 1 => by
    show (rowsP l word last e ++ [_]).length = _
    rw [List.length_append, rows_len l word last e]
    rfl
theorem rows_row (l word : List Nat) (last : Nat) : ∀ e, ∀ r ∈ rowsP l word last e, r.length = word.length + 1
  | 0, r, h => by cases h
  | e + 1, r, h => by
    rcases List.mem_append.mp h with h | h
    · exact rows_row l word last e r h
    · rw [List.mem_singleton.mp h]
      exact grow_len ..
def rowD (r : List Pr) : Dt := .lst (r.map prD)
def rowsD (rs : List (List Pr)) : List Dt := rs.map rowD
theorem getD_at {r : List Pr} {m : Nat} (h : m < r.length) : r[m]? = some (r.getD m (0, 0)) := by
  rw [List.getD_eq_getElem?_getD, List.getElem?_eq_getElem h]
  rfl
section
variable {P : Program} {w : World} {K : PySem.W.Frag} {mg : Str → Option Value} {base : Heap}
theorem p_is_cut (Z : Zc K mg) : FnP P w K mg base 1 "is_cut" (fun ds d => ∃ (l : List Nat) (e : Nat), e ≤ l.length ∧ l.length ≤ 1000 ∧ ds = [ts l, .int (e : Nat)] ∧ d = .bl (cutP l e)) 2 [] :=
  Z.mk_is_cut fun cdv A outer s H E ds d hr ⟨l, e, h1, h2, e1, e2⟩ => by
    subst e1 e2
    refine sds_ret (d := .bl (cutP l e)) (ed_and (k := decide (0 < e)) (k' := !decide (l[e - 1]? = some 32)) (ed_cmp (ed_var 1) ed_int (opd_b opd_gt (by simp))) fun h => ed_one ?_) rfl
    have h0 : 0 < e := of_decide_eq_true h
    have h3 : e - 1 < l.length := by omega
    have hx : l[e - 1]? = some l[e - 1] := List.getElem?_eq_getElem h3
    refine ed_is (ed_cmp (ed_at (ed_var 0) (ed_is (ed_op (ed_var 1) ed_int opd_sub) (show _ = Dt.int ((e - 1 : Nat) : Int) by congr 1; omega)) hx (by omega)) (ed_is (ed_gs Z.c_BLANK) (show Dt.str _ = ts [32] by rw [blank_eq])) opd_nes) ?_
    rw [hx]
    simp
def toldN (w o : List Nat) : Nat := (2 * o.length + 1) / (w.length + 1) + 2
theorem p_copies_told (Z : Zc K mg) : FnP P w K mg base 1 "copies_told" (fun ds d => ∃ (a b : List Nat), a.length ≤ 100 ∧ b.length ≤ 100 ∧ ds = [ts a, ts b] ∧ d = .int (toldN a b : Nat)) 2 [] :=
  Z.mk_copies_told fun cdv A outer s H E ds d hr ⟨a, b, h1, h2, e1, e2⟩ => by
    subst e1 e2
    refine sds_ret (ed_is (ed_op (ed_op (ed_op (ed_op ed_int (ed_cb (ea_cons (ed_var 1) ea_nil) (cld_lens (by omega)) Z.f_len) (opd_mul (.inl ⟨by decide, by decide⟩))) ed_int opd_add) (ed_op (ed_cb (ea_cons (ed_var 0) ea_nil) (cld_lens (by omega)) Z.f_len) ed_int opd_add) (opd_fdiv ⟨by omega, by omega⟩)) ed_int opd_add) ?_) rfl
    congr 1
theorem p_raised (Z : Zc K mg) : FnP P w K mg base 1 "raised" (fun ds d => ∃ (p : Pr) (k : Nat), ds = [prD p, .int (k : Nat)] ∧ d = prD (raiseP p k)) 2 [] :=
  Z.mk_raised fun cdv A outer s H E ds d hr ⟨p, k, e1, e2⟩ => by
    subst e1 e2
    exact sds_ret (d := prD (raiseP p k)) (ed_is (ed_tup (ea_cons (ed_op (ed_at_int (i := 0) (d := .int (p.1 : Nat)) (ed_var (d := prD p) 0) ed_int rfl) (ed_var 1) opd_add) (ea_cons (ed_at_int (i := 1) (d := .int (p.2 : Nat)) (ed_var (d := prD p) 0) ed_int rfl) ea_nil))) rfl) rfl
theorem p_best_begins (Z : Zc K mg) : FnP P w K mg base 2 "best_begins" (fun ds d => ∃ (l word : List Nat) (last : Nat), l.length ≤ 1000 ∧ word.length ≤ 100 ∧ last ≤ 1000 ∧ ds = [ts l, ts word, .int (last : Nat)] ∧ d = .lst (rowsD (bestP l word last))) 3 [] :=
  Z.mk_best_begins fun cdv A outer s H E ds d hr ⟨l, word, last, h1, h2, h3, e1, e2⟩ => by
    subst e1 e2
    have hrl : rangeD 0 ((l.length : Int) + 1).toNat = ntl (List.range (l.length + 1)) := by
      rw [show ((l.length : Int) + 1).toNat = l.length + 1 by omega]
      exact range_nat _
    refine sds_set 3 (d := prD (noneP l word)) (ed_is (ed_tup (ea_cons (ed_op (ed_op (ed_op ed_int (ed_cb (ea_cons (ed_var 0) ea_nil) (cld_lens (by omega)) Z.f_len) (opd_mul (.inl ⟨by decide, by decide⟩))) (ed_cb (ea_cons (ed_var 1) ea_nil) (cld_lens (by omega)) Z.f_len) opd_add) ed_int opd_add) (ea_cons ed_int ea_nil))) ?_) ?_ S_best_begins.nd
    · show Dt.tup _ = Dt.tup _
      simp [noneP]
    refine sds_mk 4 ea_nil ?_ S_best_begins.nd
    refine sds_cons (M := fun δ' => ∃ o5 o6 o7 o8 o9, δ' = [some (.sh (ts l)), some (.sh (ts word)), some (.sh (.int (last : Nat))), some (.sh (prD (noneP l word))), some (.mu (rowsD (bestP l word last))), o5, o6, o7, o8, o9]) (sd_for (vs := [5]) (δt := fun i δ' => δ'.set 5 (some (.sh ((ntl (List.range (l.length + 1))).getD i .non)))) (fun i δ' => ∃ o5 o6 o7 o8 o9, δ' = [some (.sh (ts l)), some (.sh (ts word)), some (.sh (.int (last : Nat))), some (.sh (prD (noneP l word))), some (.mu (rowsD (rowsP l word last i))), o5, o6, o7, o8, o9]) (id_is (id_range1 (ea_cons (ed_op (ed_cb (ea_cons (ed_var 0) ea_nil) (cld_lens (by omega)) Z.f_len) ed_int opd_add) ea_nil) (by omega) Z.f_range) hrl) ⟨none, none, none, none, none, rfl⟩ ?_ ?_ ?_) ?_
    · rintro i d δ' hd ⟨o5, o6, o7, o8, o9, rfl⟩
      rw [getD_of hd]
      exact gd_name 5 S_best_begins.nd
    · rintro i d δ' hd ⟨o5, o6, o7, o8, o9, rfl⟩
      rw [getD_of hd]
      have hil : i < l.length + 1 := by
        have := (List.getElem?_eq_some_iff.mp hd).1
        simpa [ntl] using this
      have hd' : d = .int (i : Nat) := by
        unfold ntl at hd
        rw [List.getElem?_map, List.getElem?_range hil] at hd
        exact (Option.some.inj hd).symm
      subst hd'
      have hlen := rows_len l word last i
      -- the row ahead
      generalize hprev : (rowsP l word last i).getLastD [] = prev
      have hp : 0 < i → L2.atI (rowsD (rowsP l word last i)) (-1) = some (rowD prev) ∧ prev.length = word.length + 1 := fun h0 => by
        have hne : rowsP l word last i ≠ [] := fun z => by rw [z] at hlen; simp at hlen; omega
        have hne2 : rowsD (rowsP l word last i) ≠ [] := fun z => hne (List.map_eq_nil_iff.mp z)
        have e : (rowsP l word last i).getLastD [] = (rowsP l word last i).getLast hne := by
          rw [List.getLastD_eq_getLast?, List.getLast?_eq_some_getLast hne]
          rfl
        refine ⟨?_, ?_⟩
        · rw [atI_last hne2]
          unfold rowsD
          rw [List.getElem?_map, List.length_map, ← List.getLast?_eq_getElem?, List.getLast?_eq_some_getLast hne, ← hprev, e]
          rfl
        · rw [← hprev, e]
          exact rows_row l word last i _ (List.getLast_mem hne)
      refine sds_set 6 (d := prD (firstP l (noneP l word) last i)) (ed_if (k := decide ((i : Int) ≤ (last : Int))) (et_cmp (ed_var 5) (ed_var 2) opd_le) (fun h => ?_) (fun h => ?_)) ?_ S_best_begins.nd
      · have h' : i ≤ last := by have := of_decide_eq_true h; omega
        refine ed_is (ed_tup (ea_cons (ed_ct (ea_cons (ed_call (p_is_cut Z) hr (ea_cons (ed_var 0) (ea_cons (ed_var 5) ea_nil)) ⟨l, i, by omega, by omega, rfl, rfl⟩) ea_nil) cld_intB Z.f_int) (ea_cons (ed_var 5) ea_nil))) ?_
        unfold firstP
        rw [if_pos h']
        show Dt.tup _ = Dt.tup _
        cases cutP l i <;> rfl
      · have h' : ¬ i ≤ last := by have := of_decide_eq_false h; omega
        refine ed_is (ed_var 3) ?_
        unfold firstP
        rw [if_neg h']
      generalize hf : firstP l (noneP l word) last i = f
      refine sds_mk (ds := [prD (if 0 < i then minP f (raiseP (prev.getD 0 (0, 0)) 1) else f)]) 7 (ea_cons (ed_if (k := decide ((0 : Int) < (i : Int))) (et_cmp (ed_var 5) ed_int opd_gt) (fun h => ?_) (fun h => ?_)) ea_nil) ?_ S_best_begins.nd
      · have h' : 0 < i := by have := of_decide_eq_true h; omega
        obtain ⟨p1, p2⟩ := hp h'
        rw [if_pos h']
        refine ed_cb (ea_cons (ed_var 6) (ea_cons (ed_call (p_raised Z) hr (ea_cons (ed_at_intL (i := 0) (ed_ixMu (ds := rowsD (rowsP l word last i)) (d := rowD prev) (j := -1) 4 (ed_un ed_int und_neg) p1) ed_int (d := prD (prev.getD 0 (0, 0))) (by rw [List.getElem?_map, getD_at (by omega)]; rfl)) (ea_cons ed_int ea_nil)) ⟨_, 1, rfl, rfl⟩) ea_nil)) (cld_minPr hr.units) Z.f_min
      · have h' : ¬ 0 < i := by have := of_decide_eq_false h; omega
        rw [if_neg h']
        exact ed_var 6
      have hwl : ((word.length : Int) + 1 - 1).toNat = word.length := by omega
      refine sds_cons (M := fun δ' => ∃ o8 o9, δ' = [some (.sh (ts l)), some (.sh (ts word)), some (.sh (.int (last : Nat))), some (.sh (prD (noneP l word))), some (.mu (rowsD (rowsP l word last i))), some (.sh (.int (i : Nat))), some (.sh (prD f)), some (.mu ((growP l word i prev f word.length).map prD)), o8, o9]) (sd_for (ds := rangeD 1 word.length) (vs := [8]) (δt := fun i δ' => δ'.set 8 (some (.sh ((rangeD 1 word.length).getD i .non))))
        (fun m δ' => ∃ o8 o9, δ' = [some (.sh (ts l)), some (.sh (ts word)), some (.sh (.int (last : Nat))), some (.sh (prD (noneP l word))), some (.mu (rowsD (rowsP l word last i))), some (.sh (.int (i : Nat))), some (.sh (prD f)), some (.mu ((growP l word i prev f m).map prD)), o8, o9]) (id_is (id_range2 (ea_cons ed_int (ea_cons (ed_op (ed_cb (ea_cons (ed_var 1) ea_nil) (cld_lens (by omega)) Z.f_len) ed_int opd_add) ea_nil)) (by omega) Z.f_range) (by rw [hwl])) ⟨o8, o9, rfl⟩ ?_ ?_ ?_) ?_
      · rintro m d δ' hd ⟨o8, o9, rfl⟩
        rw [getD_of hd]
        exact gd_name 8 S_best_begins.nd
      · rintro m d δ' hd ⟨o8, o9, rfl⟩
        rw [getD_of hd]
        have hml : m < word.length := by
          have := (List.getElem?_eq_some_iff.mp hd).1
          rwa [rangeD_len] at this
        rw [rangeD_get hml] at hd
        cases hd
        have gl := grow_len l word i prev f m
        have em : ((1 : Int) + (m : Int)) = ((m + 1 : Nat) : Int) := by omega
        rw [em]
        have hrow : L2.atI ((growP l word i prev f m).map prD) (((m + 1 : Nat) : Int) - 1) = some (prD ((growP l word i prev f m).getD m (0, 0))) := by
          rw [show (((m + 1 : Nat) : Int) - 1) = (m : Int) by omega, atI_nat, List.getElem?_map, getD_at (by omega)]
          rfl
        refine sds_set 9 (d := prD (raiseP ((growP l word i prev f m).getD m (0, 0)) 1)) (ed_call (p_raised Z) hr (ea_cons (ed_ixMu 7 (ed_op (ed_var 8) ed_int opd_sub) hrow) (ea_cons ed_int ea_nil)) ⟨_, 1, rfl, rfl⟩) ?_ S_best_begins.nd
        refine sds_if (fun δ' => δ' = [some (.sh (ts l)), some (.sh (ts word)), some (.sh (.int (last : Nat))), some (.sh (prD (noneP l word))), some (.mu (rowsD (rowsP l word last i))), some (.sh (.int (i : Nat))), some (.sh (prD f)), some (.mu ((growP l word i prev f m).map prD)), some (.sh (.int ((m + 1 : Nat) : Int))), some (.sh (prD (cellP l word i prev (growP l word i prev f m) m)))]) (k := decide ((0 : Int) < (i : Int))) (et_cmp (ed_var 5) ed_int opd_gt) (fun h => ?_) (fun h => ?_) (fun δ' z => ?_)
        · have h' : 0 < i := by have := of_decide_eq_true h; omega
          obtain ⟨p1, p2⟩ := hp h'
          have hx : l[i - 1]? = some l[i - 1] := List.getElem?_eq_getElem (by omega)
          have hy : word[m]? = some word[m] := List.getElem?_eq_getElem hml
          have ec : cellP l word i prev (growP l word i prev f m) m = minP (minP (raiseP ((growP l word i prev f m).getD m (0, 0)) 1) (raiseP (prev.getD (m + 1) (0, 0)) 1)) (raiseP (prev.getD m (0, 0)) (if l[i - 1]? = word[m]? then 0 else 1)) := if_pos h'
          rw [ec]
          refine sds_set 9 (ed_cb (ea_cons (ed_var 9) (ea_cons (ed_call (p_raised Z) hr (ea_cons (ed_at_intL (ed_ixMu (ds := rowsD (rowsP l word last i)) (d := rowD prev) (j := -1) 4 (ed_un ed_int und_neg) p1) (ed_var 8) (d := prD (prev.getD (m + 1) (0, 0))) (by rw [List.getElem?_map, getD_at (by omega)]; rfl)) (ea_cons ed_int ea_nil)) ⟨_, 1, rfl, rfl⟩) ea_nil)) (cld_minPr hr.units) Z.f_min) ?_ S_best_begins.nd
          refine sds_set 9 (ed_cb (ea_cons (ed_var 9) (ea_cons (ed_call (p_raised Z) hr (ea_cons (ed_at_intL (i := m) (ed_ixMu (ds := rowsD (rowsP l word last i)) (d := rowD prev) (j := -1) 4 (ed_un ed_int und_neg) p1) (ed_is (ed_op (ed_var 8) ed_int opd_sub) (show _ = Dt.int (m : Int) by congr 1; omega)) (d := prD (prev.getD m (0, 0))) (by rw [List.getElem?_map, getD_at (by omega)]; rfl)) (ea_cons (ed_is (ed_ct (ea_cons (ed_cmp (ed_at (ed_var 0) (ed_is (ed_op (ed_var 5) ed_int opd_sub) (show _ = Dt.int ((i - 1 : Nat) : Int) by congr 1; omega)) hx (by omega)) (ed_at (ed_var 1) (ed_is (ed_op (ed_var 8) ed_int opd_sub) (show _ = Dt.int (m : Int) by congr 1; omega)) hy (by omega)) opd_nes) ea_nil) cld_intB Z.f_int) (show _ = Dt.int ((if l[i - 1]? = word[m]? then 0 else 1 : Nat) : Int) from ?_)) ea_nil)) ⟨_, _, rfl, rfl⟩) ea_nil)) (cld_minPr hr.units) Z.f_min) (sds_nil rfl) S_best_begins.nd
          rw [hx, hy]
          by_cases hxy : l[i - 1] = word[m] <;> simp [hxy]
        · have h' : ¬ 0 < i := by have := of_decide_eq_false h; omega
          have ec : cellP l word i prev (growP l word i prev f m) m = raiseP ((growP l word i prev f m).getD m (0, 0)) 1 := if_neg h'
          rw [ec]
          exact sds_nil rfl
        · subst z
          refine sds_append (ds := (growP l word i prev f m).map prD) 7 (ed_var 9) (by rw [List.length_map]; omega) (sds_nil ⟨some (.sh (.int ((m + 1 : Nat) : Int))), some (.sh (prD (cellP l word i prev (growP l word i prev f m) m))), ?_⟩)
          have e : growP l word i prev f (m + 1) = growP l word i prev f m ++ [cellP l word i prev (growP l word i prev f m) m] := rfl
          rw [e, List.map_append]
          rfl
      · rintro δ' ⟨o8, o9, rfl⟩
        rw [rangeD_len]
        exact ⟨o8, o9, rfl⟩
      · rintro δ' ⟨o8, o9, rfl⟩
        refine sds_frz 7 ?_
        refine sds_append (ds := rowsD (rowsP l word last i)) (d := rowD (growP l word i prev f word.length)) 4 (ed_var 7) (by simp [rowsD, hlen]; omega) (sds_nil ⟨some (.sh (.int (i : Nat))), some (.sh (prD f)), some (.sh (rowD (growP l word i prev f word.length))), o8, o9, ?_⟩)
        have e : rowsP l word last (i + 1) = rowsP l word last i ++ [growP l word i ((rowsP l word last i).getLastD []) (firstP l (noneP l word) last i) word.length] := rfl
        rw [e, hprev, hf]
        unfold rowsD
        rw [List.map_append]
        rfl
    · rintro δ' ⟨o5, o6, o7, o8, o9, rfl⟩
      rw [ntl_len, List.length_range]
      exact ⟨o5, o6, o7, o8, o9, rfl⟩
    · rintro δ' ⟨o5, o6, o7, o8, o9, rfl⟩
      exact sds_frz 4 (sds_ret (ed_var 4) rfl)
end
end AP
end
/-! AP17 -/
section
set_option Elab.async false
set_option linter.all false
set_option maxRecDepth 100000
set_option maxHeartbeats 4000000
namespace AP
open PySem PySem.Spec PyProof.Rows L2 AL AZ
def minL : List Nat → Nat
  | [] => 0
  | [x] => x
  | x :: y :: r => min x (minL (y :: r))
theorem minL_mem : ∀ {l : List Nat}, l ≠ [] → minL l ∈ l
  | [], h => absurd rfl h
  | [x], _ => List.mem_cons_self ..
  | x :: y :: r, _ => by
    have ih := minL_mem (l := y :: r) (by simp)
    show min x (minL (y :: r)) ∈ _
    rcases Nat.le_total x (minL (y :: r)) with h | h
    · rw [Nat.min_eq_left h]
      exact List.mem_cons_self ..
    · rw [Nat.min_eq_right h]
      exact List.mem_cons_of_mem _ ih
theorem minL_le : ∀ {l : List Nat}, ∀ y ∈ l, minL l ≤ y
  | [], _, h => by cases h
  | [x], y, h => by rw [List.mem_singleton.mp h]; exact Nat.le_refl _
  | x :: z :: r, y, h => by
    show min x (minL (z :: r)) ≤ y
    rcases List.mem_cons.mp h with rfl | h
    · exact Nat.min_le_left _ _
    · exact Nat.le_trans (Nat.min_le_right _ _) (minL_le y h)
theorem cld_minN {X : Cx} {l : List Nat} (h : l ≠ []) (hc : X.calm = true := by rfl) : ClD X (.builtin "min") [.lst (ntl l)] (.int (minL l : Nat)) := by
  rw [ntl_eq]
  refine cld_min (List.mem_map.mpr ⟨minL l, minL_mem h, rfl⟩) (fun y hy => ?_) hc
  obtain ⟨k, hk, rfl⟩ := List.mem_map.mp hy
  have := minL_le k hk
  omega
def copT (a b : List Nat) : List Nat := TL.joinL [32] (List.replicate (toldN a b) a)
def lastP (r : List Pr) : Pr := r.getLastD (0, 0)
def aloneL (a b : List Nat) : List Nat := (List.range ((copT a b).length + 1)).map fun e => (lastP ((bestP (copT a b) b (copT a b).length).getD e [])).1 + (if e < (copT a b).length ∧ (copT a b)[e]? ≠ some 32 then 1 else 0)
def aloneN (a b : List Nat) : Nat := minL (aloneL a b)
def sideL (a b : List Nat) : List Nat := ((bestP (copT a b) b (copT a b).length).getLastD []).map (·.1)
theorem best_len (l word : List Nat) (last : Nat) : (bestP l word last).length = l.length + 1 := rows_len ..
theorem told_le {a b : List Nat} (ha : a.length ≤ 12) (hb : b.length ≤ 12) : toldN a b ≤ 27 := by
  unfold toldN
  have : (2 * b.length + 1) / (a.length + 1) ≤ 2 * b.length + 1 := Nat.div_le_self _ _
  omega
theorem copT_len {a b : List Nat} (ha : a.length ≤ 12) (hb : b.length ≤ 12) : (copT a b).length ≤ 400 := by
  have h1 := joinL_len (List.replicate (toldN a b) a)
  have h2 := told_le ha hb
  have h3 := sum_le (l := (List.replicate (toldN a b) a).map fun p => p.length + 1) (b := 13) (fun x hx => by
    obtain ⟨p, hp, rfl⟩ := List.mem_map.mp hx
    rw [List.eq_of_mem_replicate hp]
    omega)
  rw [List.length_map, List.length_replicate] at h3
  unfold copT
  omega
section
variable {P : Program} {w : World} {K : PySem.W.Frag} {mg : Str → Option Value} {base : Heap}
theorem ed_copT {X : Cx} {δ : De} {e1 e3 e2 : Expr} {a b : List Nat} {j : Nat} {p1 p2 p3 p4 p5 p6 p7 : Pos} (Z : Zc X.K X.mg) (hr : Room j X.A) (ha : a.length ≤ 12) (hb : b.length ≤ 12) (h1 : ED X δ e1 (ts a)) (h2 : EA X δ [e3, e2] [ts a, ts b]) (hj : 1 ≤ j := by decide)
    (hg : Gl X "BLANK" := by rfl) (hg2 : Gl X "copies_told" := by rfl) (hs : starEach [e1] X.env = (false, eval e1 X.env) :: starEach [] X.env := by rfl) (hs2 : starEach [e3, e2] X.env = (false, eval e3 X.env) :: starEach [e2] X.env := by rfl) (hpl : (backTo p5 (starEach [e2] X.env)).any (·.1) = false := by rfl)
    (hb2 : attributeBase (.Name "BLANK" p1) "join" X.env (eval (.Name "BLANK" p1) X.env) = eval (.Name "BLANK" p1) X.env := by rfl) (hl : (p2.endLine == p3.line) = true := by rfl) (hs3 : starEach [.BinOp (.List [e1] p4) .Mult (.Call (.Name "copies_told" p6) [e3, e2] [] p5) p7] X.env = (false, eval (.BinOp (.List [e1] p4) .Mult (.Call (.Name "copies_told" p6) [e3, e2] [] p5) p7) X.env) :: starEach [] X.env := by rfl) :
    ED X δ (.Call (.Attribute (.Name "BLANK" p1) "join" p2) [.BinOp (.List [e1] p4) .Mult (.Call (.Name "copies_told" p6) [e3, e2] [] p5) p7] [] p3) (ts (copT a b)) := by
  have ht := told_le ha hb
  refine ed_is (ed_join (z := mk [32]) (ys := (List.replicate (toldN a b) a).map mk) (ed_is (ed_gs Z.c_BLANK hg) (show Dt.str _ = Dt.str (mk [32]) by rw [← blank_eq])) (ed_is (ed_op (ed_lst (ea_cons h1 ea_nil hs)) (ed_call (p_copies_told Z) hr h2 ⟨a, b, by omega, by omega, rfl, rfl⟩ hj rfl hg2 (by decide) hs2 hpl) (opd_rep (by omega) (by omega) (by simp; exact sl_le (by omega)))) (congrArg Dt.lst ((rep_words a (toldN a b)).trans (words_eq _)))) ?_ hb2 hl hs3) ?_
  · rw [List.map_map, List.length_map, List.length_replicate, mk_len]
    have := sum_le (l := (List.replicate (toldN a b) a).map ((fun x : Str => x.length) ∘ mk)) (b := 12) (fun x hx => by
      obtain ⟨p, hp, rfl⟩ := List.mem_map.mp hx
      rw [List.eq_of_mem_replicate hp]
      show (mk a).length ≤ 12
      rw [mk_len]
      exact ha)
    rw [List.length_map, List.length_replicate] at this
    simp only [List.length_cons, List.length_nil]
    omega
  · show Dt.str (Txt.join (SX.S [32]) ((List.replicate (toldN a b) a).map SX.S)) = _
    rw [SX.join_S]
    rfl
theorem last_at {r : List Pr} (h : r ≠ []) : L2.atI (r.map prD) (-1) = some (prD (lastP r)) := by
  have h2 : r.map prD ≠ [] := fun z => h (List.map_eq_nil_iff.mp z)
  rw [atI_last h2, List.getElem?_map, List.length_map, ← List.getLast?_eq_getElem?]
  unfold lastP
  rw [List.getLastD_eq_getLast?, List.getLast?_eq_some_getLast h]
  rfl
theorem p_alone_cost (Z : Zc K mg) : FnP P w K mg base 3 "alone_cost" (fun ds d => ∃ (a b : List Nat), a.length ≤ 12 ∧ b.length ≤ 12 ∧ ds = [ts a, ts b] ∧ d = .int (aloneN a b : Nat)) 2 [] :=
  Z.mk_alone_cost fun cdv A outer s H E ds d hr ⟨a, b, ha, hb, e1, e2⟩ => by
    subst e1 e2
    have hl := copT_len ha hb
    refine sds_set 2 (ed_copT Z hr ha hb (ed_var 0) (ea_cons (ed_var 0) (ea_cons (ed_var 1) ea_nil))) ?_ S_alone_cost.nd
    refine sds_set 3 (ed_call (p_best_begins Z) hr (ea_cons (ed_var 2) (ea_cons (ed_var 1) (ea_cons (ed_cb (ea_cons (ed_var 2) ea_nil) (cld_lens (by omega)) Z.f_len) ea_nil))) ⟨_, b, _, by omega, by omega, by omega, rfl, rfl⟩) ?_ S_alone_cost.nd
    have hbl := best_len (copT a b) b (copT a b).length
    have hrb : ∀ r ∈ bestP (copT a b) b (copT a b).length, r ≠ [] := fun r h z => by
      have := rows_row _ _ _ _ r h
      rw [z] at this
      simp at this
    have hel : (enumD (rowsD (bestP (copT a b) b (copT a b).length))).length = (copT a b).length + 1 := by rw [enumD_len]; simp [rowsD, hbl]
    have eL : (List.range (enumD (rowsD (bestP (copT a b) b (copT a b).length))).length).map (fun e => Dt.int (((lastP ((bestP (copT a b) b (copT a b).length).getD e [])).1 + (if e < (copT a b).length ∧ (copT a b)[e]? ≠ some 32 then 1 else 0) : Nat) : Int)) = ntl (aloneL a b) := by
      rw [hel]
      unfold ntl aloneL
      rw [List.map_map]
      rfl
    refine sds_ret (ed_cb (ea_cons (ed_is (ed_lc (own := [("end", 4), ("row", 5)]) (δi := fun i => ([some (.sh (ts a)), some (.sh (ts b)), some (.sh (ts (copT a b))), some (.sh (.lst (rowsD (bestP (copT a b) b (copT a b).length)))), some (.sh (.int (i : Nat))), some (.sh (rowD ((bestP (copT a b) b (copT a b).length).getD i [])))] : De)) (f := fun e => Dt.int (((lastP ((bestP (copT a b) b (copT a b).length).getD e [])).1 + (if e < (copT a b).length ∧ (copT a b)[e]? ≠ some 32 then 1 else 0) : Nat) : Int)) (id_enum (ea_cons (ed_var 3) ea_nil) Z.f_enumerate) (blkOk_by (by kernel_rfl)) S_alone_cost.nd (by omega) (two_none rfl rfl) (fun s H C cl fp i d hd => ?_) (fun s H C cl fp i hi => ?_)) (congrArg Dt.lst eL)) ea_nil) (cld_minN (by simp [aloneL])) Z.f_min) rfl
    · have hil : i < (bestP (copT a b) b (copT a b).length).length := by
        have := (List.getElem?_eq_some_iff.mp hd).1
        omega
      have e : (bestP (copT a b) b (copT a b).length).getD i [] = (bestP (copT a b) b (copT a b).length)[i] := by simp [List.getD_eq_getElem?_getD, hil]
      have hx := enumD_get (ds := rowsD (bestP (copT a b) b (copT a b).length)) (i := i) (d := rowD (bestP (copT a b) b (copT a b).length)[i]) (by simp [rowsD, hil])
      rw [hx] at hd
      cases hd
      show GD _ _ _ _ _ [_, _, _, _, some (.sh (.int (i : Nat))), some (.sh (rowD ((bestP (copT a b) b (copT a b).length).getD i [])))]
      rw [e]
      exact gd_tup (gds_cons (gd_name 4 S_alone_cost.nd) (gds_cons (gd_name 5 S_alone_cost.nd) gds_nil))
    · have hil : i < (bestP (copT a b) b (copT a b).length).length := by omega
      have e : (bestP (copT a b) b (copT a b).length).getD i [] = (bestP (copT a b) b (copT a b).length)[i] := by simp [List.getD_eq_getElem?_getD, hil]
      have hne := hrb _ (List.getElem_mem hil)
      show ED _ [_, _, _, _, some (.sh (.int (i : Nat))), some (.sh (rowD ((bestP (copT a b) b (copT a b).length).getD i [])))] _ (Dt.int (((lastP ((bestP (copT a b) b (copT a b).length).getD i [])).1 + (if i < (copT a b).length ∧ (copT a b)[i]? ≠ some 32 then 1 else 0) : Nat) : Int))
      rw [e]
      generalize (bestP (copT a b) b (copT a b).length)[i] = r at *
      refine ed_is (ed_op (ed_at_int (i := 0) (ed_ixL (i := -1) (ed_var (d := rowD r) 5) (ed_un ed_int und_neg) (last_at hne)) ed_int (d := .int ((lastP r).1 : Nat)) rfl) (ed_ct (ea_cons (ed_and (k := decide ((i : Int) < ((copT a b).length : Int))) (k' := !decide ((copT a b)[i]? = some 32)) (ed_cmp (ed_var 4) (ed_cb (ea_cons (ed_var 2) ea_nil) (cld_lens (by omega)) Z.f_len) opd_lt) fun h => ed_one ?_) ea_nil) cld_intB Z.f_int) opd_add) ?_
      · have h' : i < (copT a b).length := by have := of_decide_eq_true h; omega
        have hx : (copT a b)[i]? = some (copT a b)[i] := List.getElem?_eq_getElem h'
        refine ed_is (ed_cmp (ed_at (ed_var 2) (ed_var 4) hx (by omega)) (ed_is (ed_gs Z.c_BLANK) (show Dt.str _ = ts [32] by rw [blank_eq])) opd_nes) ?_
        rw [hx]
        simp
      · show Dt.int _ = Dt.int _
        congr 1
        by_cases h1 : i < (copT a b).length
        · have h1' : (i : Int) < ((copT a b).length : Int) := by omega
          by_cases h2 : (copT a b)[i]? = some 32
          · simp [h1, h2, h1']; split <;> rfl
          · simp [h1, h2, h1']; split <;> rfl
        · have h1' : ¬ (i : Int) < ((copT a b).length : Int) := by omega
          simp [h1, h1']
theorem p_side_costs (Z : Zc K mg) : FnP P w K mg base 3 "side_costs" (fun ds d => ∃ (a b : List Nat), a.length ≤ 12 ∧ b.length ≤ 12 ∧ ds = [ts a, ts b] ∧ d = .lst (ntl (sideL a b))) 2 [] :=
  Z.mk_side_costs fun cdv A outer s H E ds d hr ⟨a, b, ha, hb, e1, e2⟩ => by
    subst e1 e2
    have hl := copT_len ha hb
    refine sds_set 2 (ed_copT Z hr ha hb (ed_var 0) (ea_cons (ed_var 0) (ea_cons (ed_var 1) ea_nil))) ?_ S_side_costs.nd
    have hbl := best_len (copT a b) b (copT a b).length
    have hne : bestP (copT a b) b (copT a b).length ≠ [] := fun z => by rw [z] at hbl; simp at hbl
    have hlast : L2.atI (rowsD (bestP (copT a b) b (copT a b).length)) (-1) = some (rowD ((bestP (copT a b) b (copT a b).length).getLastD [])) := by
      have hne2 : rowsD (bestP (copT a b) b (copT a b).length) ≠ [] := fun z => hne (List.map_eq_nil_iff.mp z)
      rw [atI_last hne2]
      unfold rowsD
      rw [List.getElem?_map, List.length_map, ← List.getLast?_eq_getElem?, List.getLast?_eq_some_getLast hne, List.getLastD_eq_getLast?, List.getLast?_eq_some_getLast hne]
      rfl
    have hrl : ((bestP (copT a b) b (copT a b).length).getLastD []).length = b.length + 1 := by
      rw [List.getLastD_eq_getLast?, List.getLast?_eq_some_getLast hne]
      exact rows_row _ _ _ _ _ (List.getLast_mem hne)
    refine sds_ret (ed_is (ed_lcM 3 (fun d => match d with | .tup (x :: _) => x | _ => .non) (id_list (ed_ixL (i := -1) (ed_call (p_best_begins Z) hr (ea_cons (ed_var 2) (ea_cons (ed_var 1) (ea_cons (ed_cb (ea_cons (ed_var 2) ea_nil) (cld_lens (by omega)) Z.f_len) ea_nil))) ⟨_, b, _, by omega, by omega, by omega, rfl, rfl⟩) (ed_un ed_int und_neg) hlast)) (blkOk_by (by kernel_rfl)) S_side_costs.nd (fun s H C cl fp d hd => ?_) (by rw [List.length_map, hrl]; omega)) ?_) rfl
    · obtain ⟨q, hq, rfl⟩ := List.mem_map.mp hd
      exact ed_at_int (i := 0) (ed_var (d := prD q) 3) ed_int rfl
    · show Dt.lst _ = Dt.lst _
      unfold ntl sideL
      rw [List.map_map, List.map_map]
      rfl
end
end AP
end
/-! AP18 -/
section
set_option Elab.async false
set_option linter.all false
set_option maxRecDepth 100000
set_option maxHeartbeats 4000000
namespace AP
open PySem PySem.Spec PyProof.Rows L2 AL AZ
def lostL (a b : List Nat) : List Nat := (List.range a.length).map fun i => a.getD i 0 + 1 + b.getD (a.length - 1 - i) 0
def chgL (a b : List Nat) : List Nat := (List.range (a.length - 1)).map fun i => a.getD i 0 + 1 + b.getD (a.length - 1 - i - 1) 0
def borderN (a b : List Nat) : Nat := minL (lostL a b ++ chgL a b)
theorem ntl_at {l : List Nat} {i : Nat} (h : i < l.length) : (ntl l)[i]? = some (.int (l.getD i 0 : Nat)) := by
  apply ntl_get
  simp [List.getD_eq_getElem?_getD, h]
section
variable {P : Program} {w : World} {K : PySem.W.Frag} {mg : Str → Option Value} {base : Heap}
theorem p_border_cost (Z : Zc K mg) : FnP P w K mg base 1 "border_cost" (fun ds d => ∃ (a b : List Nat), 0 < a.length ∧ a.length ≤ 1000 ∧ b.length = a.length ∧ ds = [.lst (ntl a), .lst (ntl b)] ∧ d = .int (borderN a b : Nat)) 2 [] :=
  Z.mk_border_cost fun cdv A outer s H E ds d hr ⟨a, b, h0, h1, hl, e1, e2⟩ => by
    subst e1 e2
    refine sds_set 2 (d := .int ((a.length - 1 : Nat) : Int)) (ed_is (ed_op (ed_cb (ea_cons (ed_var 0) ea_nil) cld_lenL Z.f_len) ed_int opd_sub) (by simp only [ntl_len]; congr 1; omega)) ?_ S_border_cost.nd
    have hr1 : rangeD 0 (((a.length - 1 : Nat) : Int) + 1).toNat = ntl (List.range a.length) := by
      rw [show (((a.length - 1 : Nat) : Int) + 1).toNat = a.length by omega]
      exact range_nat _
    refine sds_lcM 3 4 (fun d => match d with | .int i => .int (a.getD i.toNat 0 + 1 + b.getD (a.length - 1 - i.toNat) 0 : Nat) | _ => .non) (id_is (id_range1 (ea_cons (ed_op (ed_var 2) ed_int opd_add) ea_nil) (by omega) Z.f_range) hr1) (blkOk_by (by kernel_rfl)) S_border_cost.nd (fun s H C cl fp d hd => ?_) (by simp [ntl]; omega) ?_
    · obtain ⟨i, hi, rfl⟩ := ntl_mem hd
      have hi' : i < a.length := List.mem_range.mp hi
      refine ed_is (ed_op (ed_op (ed_at_intL (ed_var 0) (ed_var 4) (ntl_at hi')) ed_int opd_add) (ed_at_intL (i := a.length - 1 - i) (ed_var 1) (ed_is (ed_op (ed_var 2) (ed_var 4) opd_sub) (by congr 1; omega)) (ntl_at (by omega))) opd_add) ?_
      show Dt.int _ = Dt.int _
      congr 1
    refine sds_lcM 5 4 (fun d => match d with | .int i => .int (a.getD i.toNat 0 + 1 + b.getD (a.length - 1 - i.toNat - 1) 0 : Nat) | _ => .non) (id_is (id_range1 (ea_cons (ed_var 2) ea_nil) (by omega) Z.f_range) (show _ = ntl (List.range (a.length - 1)) by rw [Int.toNat_natCast]; exact range_nat _)) (blkOk_by (by kernel_rfl)) S_border_cost.nd (fun s H C cl fp d hd => ?_) (by simp [ntl]; omega) ?_
    · obtain ⟨i, hi, rfl⟩ := ntl_mem hd
      have hi' : i < a.length - 1 := List.mem_range.mp hi
      refine ed_is (ed_op (ed_op (ed_at_intL (ed_var 0) (ed_var 4) (ntl_at (by omega))) ed_int opd_add) (ed_at_intL (i := a.length - 1 - i - 1) (ed_var 1) (ed_is (ed_op (ed_op (ed_var 2) (ed_var 4) opd_sub) ed_int opd_sub) (by congr 1; omega)) (ntl_at (by omega))) opd_add) ?_
      show Dt.int _ = Dt.int _
      congr 1
    refine sds_ret (d := .int (borderN a b : Nat)) (ed_cb (ea_cons (ed_is (ed_op (ed_var 3) (ed_var 5) (opd_cat (by simp [ntl]; exact sl_le (by omega)))) (show _ = Dt.lst (ntl (lostL a b ++ chgL a b)) by simp only [ntl, lostL, chgL, List.map_append, List.map_map]; rfl)) ea_nil) (cld_minN fun z => by have := congrArg List.length z; rw [List.length_append] at this; simp only [lostL, List.length_map, List.length_range, List.length_nil] at this; omega) Z.f_min) rfl
end
end AP
end
/-! AP19 -/
section
set_option Elab.async false
set_option linter.all false
set_option maxRecDepth 100000
set_option maxHeartbeats 4000000
namespace AP
open PySem PySem.Spec PyProof.Rows L2 AL AZ
def trD (t : Nat × Nat × Nat) : Dt := .tup [.int (t.1 : Nat), .int (t.2.1 : Nat), .int (t.2.2 : Nat)]
def tripO (n i j : Nat) : List (Nat × Nat × Nat) := ((List.range n).filter fun k => !decide (k = i ∨ k = j)).map fun k => (i, j, k)
def tripR (n i : Nat) : List (Nat × Nat × Nat) := (List.range n).flatMap (tripO n i)
def tripL (n : Nat) : List (Nat × Nat × Nat) := (List.range n).flatMap (tripR n)
theorem tripO_len (n i j : Nat) : (tripO n i j).length ≤ n := by
  unfold tripO
  rw [List.length_map]
  exact Nat.le_trans (List.length_filter_le _ _) (by simp)
theorem fm_len {α β : Type} {f : α → List β} {b : Nat} : ∀ {l : List α}, (∀ x ∈ l, (f x).length ≤ b) → (l.flatMap f).length ≤ b * l.length
  | [], _ => by simp
  | x :: l, h => by
    rw [List.flatMap_cons, List.length_append, List.length_cons]
    have h1 := h x (List.mem_cons_self ..)
    have h2 := fm_len (f := f) (b := b) (l := l) fun y hy => h y (List.mem_cons_of_mem _ hy)
    rw [Nat.mul_succ]
    omega
theorem range_fm {β : Type} (f : Nat → List β) (i : Nat) : (List.range (i + 1)).flatMap f = (List.range i).flatMap f ++ f i := by
  rw [List.range_succ, List.flatMap_append]
  simp
theorem nr_get {n i : Nat} {d : Dt} (h : (ntl (List.range n))[i]? = some d) : i < n ∧ d = .int (i : Nat) := by
  have hl : i < n := by
    have := (List.getElem?_eq_some_iff.mp h).1
    simpa [ntl] using this
  rw [ntl_get (l := List.range n) (n := i) (List.getElem?_range hl)] at h
  exact ⟨hl, (Option.some.inj h).symm⟩
section
variable {P : Program} {w : World} {K : PySem.W.Frag} {mg : Str → Option Value} {base : Heap}
theorem p_triples_of (Z : Zc K mg) : FnP P w K mg base 1 "triples_of" (fun ds d => ∃ n : Nat, n ≤ 20 ∧ ds = [.int (n : Nat)] ∧ d = .lst ((tripL n).map trD)) 1 [] :=
  Z.mk_triples_of fun cdv A outer s H E ds d hr ⟨n, h1, e1, e2⟩ => by
    subst e1 e2
    have hrn : rangeD 0 ((n : Int)).toNat = ntl (List.range n) := by rw [Int.toNat_natCast]; exact range_nat _
    have hnl : (ntl (List.range n)).length = n := by simp [ntl]
    refine sds_mk 1 ea_nil ?_ S_triples_of.nd
    refine sds_cons (M := fun δ' => ∃ o2 o3, δ' = [some (.sh (.int (n : Nat))), some (.mu ((tripL n).map trD)), o2, o3, none]) (sd_for (vs := [2]) (δt := fun i δ' => δ'.set 2 (some (.sh ((ntl (List.range n)).getD i .non)))) (fun i δ' => ∃ o2 o3, δ' = [some (.sh (.int (n : Nat))), some (.mu (((List.range i).flatMap (tripR n)).map trD)), o2, o3, none]) (id_is (id_range1 (ea_cons (ed_var 0) ea_nil) (by omega) Z.f_range) hrn) ⟨none, none, rfl⟩ ?_ ?_ ?_) ?_
    · rintro i d δ' hd ⟨o2, o3, rfl⟩
      rw [getD_of hd]
      exact gd_name 2 S_triples_of.nd
    · rintro i d δ' hd ⟨o2, o3, rfl⟩
      rw [getD_of hd]
      obtain ⟨hi, rfl⟩ := nr_get hd
      refine sds_cons (M := fun δ' => ∃ o3, δ' = [some (.sh (.int (n : Nat))), some (.mu (((List.range (i + 1)).flatMap (tripR n)).map trD)), some (.sh (.int (i : Nat))), o3, none]) (sd_for (vs := [3]) (δt := fun j δ' => δ'.set 3 (some (.sh ((ntl (List.range n)).getD j .non)))) (fun j δ' => ∃ o3, δ' = [some (.sh (.int (n : Nat))), some (.mu (((List.range i).flatMap (tripR n) ++ (List.range j).flatMap (tripO n i)).map trD)), some (.sh (.int (i : Nat))), o3, none]) (id_is (id_range1 (ea_cons (ed_var 0) ea_nil) (by omega) Z.f_range) hrn) ⟨o3, by simp⟩ ?_ ?_ ?_) ?_
      · rintro j d δ' hd ⟨o3, rfl⟩
        rw [getD_of hd]
        exact gd_name 3 S_triples_of.nd
      · rintro j d δ' hd ⟨o3, rfl⟩
        rw [getD_of hd]
        obtain ⟨hj, rfl⟩ := nr_get hd
        have eL : ((ntl (List.range n)).filter (fun d => match d with | .int k => !decide (k ∈ [(i : Int), (j : Int)]) | _ => false)).map (fun d => Dt.tup [.int (i : Nat), .int (j : Nat), d]) = (tripO n i j).map trD := by
          unfold ntl tripO
          rw [List.filter_map, List.map_map, List.map_map]
          have e : (List.range n).filter ((fun d => match d with | Dt.int k => !decide (k ∈ [(i : Int), (j : Int)]) | _ => false) ∘ fun (k : Nat) => Dt.int (k : Int)) = (List.range n).filter fun k => !decide (k = i ∨ k = j) := by
            apply List.filter_congr
            intro k hk
            show (!decide ((k : Int) ∈ [(i : Int), (j : Int)])) = _
            congr 1
            apply decide_eq_decide.mpr
            simp
            omega
          rw [e]
          rfl
        have l1 := tripO_len n i j
        have l2 := fm_len (f := tripO n i) (b := n) (l := List.range j) fun x _ => tripO_len n i x
        have l3 := fm_len (f := tripR n) (b := n * n) (l := List.range i) fun x _ => by
          have := fm_len (f := tripO n x) (b := n) (l := List.range n) fun y _ => tripO_len n x y
          rw [List.length_range] at this
          exact this
        rw [List.length_range] at l2 l3
        have b2 : n * j ≤ 20 * 20 := Nat.mul_le_mul h1 (by omega)
        have b3 : n * n * i ≤ 20 * 20 * 20 := Nat.mul_le_mul (Nat.mul_le_mul h1 h1) (by omega)
        refine sds_extend (ds := ((List.range i).flatMap (tripR n) ++ (List.range j).flatMap (tripO n i)).map trD) (ds2 := (tripO n i j).map trD) 1 (ed_is (ed_lcMIf 4 (fun d => match d with | .int k => !decide (k ∈ [(i : Int), (j : Int)]) | _ => false) (fun d => Dt.tup [.int (i : Nat), .int (j : Nat), d]) (id_is (id_range1 (ea_cons (ed_var 0) ea_nil) (by omega) Z.f_range) hrn) (blkOk_by (by kernel_rfl)) S_triples_of.nd (fun s H C cl fp d hd => ?_) (fun s H C cl fp d hd hb => ?_) (by omega)) (congrArg Dt.lst eL)) (by simp only [List.length_map, List.length_append]; omega) (sds_nil ⟨some (.sh (.int (j : Nat))), ?_⟩)
        · obtain ⟨k, hk, rfl⟩ := ntl_mem hd
          exact et_cmp (ed_var 4) (ed_tup (ea_cons (ed_var 2) (ea_cons (ed_var 3) ea_nil))) (opd_notinIT (xs := [(i : Int), (j : Int)]))
        · exact ed_tup (ea_cons (ed_var 2) (ea_cons (ed_var 3) (ea_cons (ed_var 4) ea_nil)))
        · rw [range_fm (tripO n i) j]
          simp
      · rintro δ' ⟨o3, rfl⟩
        rw [hnl]
        refine ⟨o3, ?_⟩
        rw [range_fm (tripR n) i]
        rfl
      · rintro δ' ⟨o3, rfl⟩
        exact sds_nil ⟨_, o3, rfl⟩
    · rintro δ' ⟨o2, o3, rfl⟩
      rw [hnl]
      exact ⟨o2, o3, rfl⟩
    · rintro δ' ⟨o2, o3, rfl⟩
      exact sds_frz 1 (sds_ret (ed_var 1) rfl)
end
end AP
end
/-! AP20 -/
section
set_option Elab.async false
set_option linter.all false
set_option maxRecDepth 100000
set_option maxHeartbeats 4000000
namespace AP
open PySem PySem.Spec PyProof.Rows L2 AL AZ
abbrev nsC : List Str := ["words", "alone", "ahead", "behind"]
def wd (ws : List (List Nat)) (i : Nat) : List Nat := ws.getD i []
structure Cok (ws : List (List Nat)) (x : K3) (n : Nat) : Prop where
  la : x.1.length ≤ n
  lb : x.2.1.length ≤ n
  lc : x.2.2.length ≤ n
  v : ∀ i j, i < ws.length → j < ws.length → ∀ d, valT x.1 (pk i j) = some d → d = .int (aloneN (wd ws i) (wd ws j) : Nat) ∧ valT x.2.1 (pk i j) = some (.lst (ntl (sideL (wd ws i) (wd ws j)))) ∧ valT x.2.2 (pk i j) = some (.lst (ntl (sideL (wd ws i).reverse (wd ws j).reverse)))
abbrev Has (x : K3) (i j : Nat) : Prop := (valT x.1 (pk i j)).isSome = true
theorem pk_inj {i j i' j' : Nat} (h : pk i j = pk i' j') : i = i' ∧ j = j' := by
  unfold pk at h
  simp only [List.cons.injEq, Sum.inl.injEq, and_true] at h
  omega
theorem Cok.get {ws : List (List Nat)} {x : K3} {n i j : Nat} (h : Cok ws x n) (hi : i < ws.length) (hj : j < ws.length) (hh : Has x i j) : valT x.1 (pk i j) = some (.int (aloneN (wd ws i) (wd ws j) : Nat)) ∧ valT x.2.1 (pk i j) = some (.lst (ntl (sideL (wd ws i) (wd ws j)))) ∧ valT x.2.2 (pk i j) = some (.lst (ntl (sideL (wd ws i).reverse (wd ws j).reverse))) := by
  obtain ⟨d, hd⟩ := Option.isSome_iff_exists.mp hh
  obtain ⟨e, h2, h3⟩ := h.v i j hi hj d hd
  exact ⟨by rw [hd, e], h2, h3⟩
theorem back_mk (l : List Nat) : Dt.str (backS (mk l)) = ts l.reverse := by simp [backS, mk]
theorem wd_at {ws : List (List Nat)} {i : Nat} (h : i < ws.length) : (wordsD ws)[i]? = some (ts (wd ws i)) := by
  unfold wordsD wd
  simp [List.getD_eq_getElem?_getD, h]
abbrev put3 (ws : List (List Nat)) (x : K3) (i j : Nat) : K3 := (putT x.1 (pk i j) (.int (aloneN (wd ws i) (wd ws j) : Nat)), putT x.2.1 (pk i j) (.lst (ntl (sideL (wd ws i) (wd ws j)))), putT x.2.2 (pk i j) (.lst (ntl (sideL (wd ws i).reverse (wd ws j).reverse))))
theorem Cok.put {ws : List (List Nat)} {x : K3} {n i j : Nat} (h : Cok ws x n) : Cok ws (put3 ws x i j) (n + 1) ∧ Has (put3 ws x i j) i j ∧ ∀ p q, Has x p q → Has (put3 ws x i j) p q := by
  refine ⟨⟨Nat.le_trans (putT_len _ _ _) (Nat.succ_le_succ h.la), Nat.le_trans (putT_len _ _ _) (Nat.succ_le_succ h.lb), Nat.le_trans (putT_len _ _ _) (Nat.succ_le_succ h.lc), fun p q hp hq d hd => ?_⟩, ?_, fun p q hh => ?_⟩
  · simp only [valT_put] at hd ⊢
    by_cases e : pk p q = pk i j
    · obtain ⟨rfl, rfl⟩ := pk_inj e
      rw [if_pos rfl] at hd
      cases hd
      exact ⟨rfl, by rw [if_pos rfl], by rw [if_pos rfl]⟩
    · rw [if_neg e] at hd
      obtain ⟨h1, h2, h3⟩ := h.v p q hp hq d hd
      exact ⟨h1, by rw [if_neg e]; exact h2, by rw [if_neg e]; exact h3⟩
  · show (valT (putT x.1 _ _) _).isSome = true
    rw [valT_put, if_pos rfl]
    rfl
  · show (valT (putT x.1 _ _) _).isSome = true
    rw [valT_put]
    split
    · rfl
    · exact hh
theorem Cok.mono {ws : List (List Nat)} {x : K3} {n n' : Nat} (h : Cok ws x n) (hn : n ≤ n') : Cok ws x n' := ⟨Nat.le_trans h.la hn, Nat.le_trans h.lb hn, Nat.le_trans h.lc hn, h.v⟩
/-- words that may be asked for costs -/
structure Wds (ws : List (List Nat)) : Prop where
  n : ws.length ≤ 20
  l : ∀ w ∈ ws, w.length ≤ 12
theorem Wds.at_ {ws : List (List Nat)} (h : Wds ws) (i : Nat) : (wd ws i).length ≤ 12 := by
  unfold wd
  rw [List.getD_eq_getElem?_getD]
  cases e : ws[i]? with
  | none => exact Nat.zero_le _
  | some w => exact h.l w (List.mem_of_getElem? e)
def ROf (wdt : Dt) (x : K3) (ds : List Dt) (Φ : Dt → K3 → Prop) : Prop := ∃ (ws : List (List Nat)) (i j n : Nat), Wds ws ∧ i < ws.length ∧ j < ws.length ∧ n ≤ 50000 ∧ Cok ws x n ∧ wdt = .tup (wordsD ws) ∧ ds = [.int (i : Nat), .int (j : Nat)] ∧ ∀ x', Cok ws x' (n + 1) → Has x' i j → (∀ p q, Has x p q → Has x' p q) → Φ (.int (aloneN (wd ws i) (wd ws j) : Nat)) x'
section
variable {P : Program} {w : World} {K : PySem.W.Frag} {mg : Str → Option Value} {base : Heap}
theorem m_of (Z : Zc K mg) : MetC P w K mg base 4 (He.ga K "Costs") nsC "of" ROf 3 := by
  obtain ⟨fd, F⟩ := Z.d_Costs_of
  have b : Binds K fd P_Costs_of [] := F.bindsN fun _ _ _ _ _ _ us hl => match us, hl with | [_, _, _], _ => rfl
  refine ⟨_, fd, P_Costs_of, fnOkC_of F S_Costs_of rfl ?_, Z.cls_Costs, Z.me_Costs_of, b⟩
  rintro cdv A outer s H E a b c wdt x ds Φ hr ⟨ws, i, j, n, hW, hi, hj, hn, hC, rfl, rfl, hΦ⟩
  have hu := hr.units
  refine sds_if (fun δ' => ∃ x' o3 o4, δ' = [some (.co (coD (He.ga K "Costs") nsC (.tup (wordsD ws)) a b c) (tri a b c x')), some (.sh (.int (i : Nat))), some (.sh (.int (j : Nat))), o3, o4] ∧ Cok ws x' (n + 1) ∧ Has x' i j ∧ ∀ p q, Has x p q → Has x' p q) (et_tnin 0 0 hu (ed_tup (ea_cons (ed_var 1) (ea_cons (ed_var 2) ea_nil))) (ed_fld (ed_co 0) Z.cls_Costs Z.na_Costs_alone rfl)) (fun h => ?_) (fun h => ?_) ?_
  · refine sds_par2 3 4 (es_sh (ed_at_int (ed_fld (ed_co 0) Z.cls_Costs Z.na_Costs_words rfl) (ed_var 1) (wd_at hi))) (es_sh (ed_at_int (ed_fld (ed_co 0) Z.cls_Costs Z.na_Costs_words rfl) (ed_var 2) (wd_at hj))) ?_ S_Costs_of.nd
    refine sds_tput 0 0 (a := a) (b := b) (c := c) (x := x) hu (ed_call (p_alone_cost Z) hr (ea_cons (ed_var 3) (ea_cons (ed_var 4) ea_nil)) ⟨_, _, hW.at_ i, hW.at_ j, rfl, rfl⟩) (ed_fld (ed_co 0) Z.cls_Costs Z.na_Costs_alone rfl) (ed_tup (ea_cons (ed_var 1) (ea_cons (ed_var 2) ea_nil))) (by have := hC.la; show x.1.length ≤ _; omega) ?_
    refine sds_tput 0 1 (a := a) (b := b) (c := c) (x := (putT x.1 (pk i j) (.int (aloneN (wd ws i) (wd ws j) : Nat)), x.2.1, x.2.2)) hu (ed_call (p_side_costs Z) hr (ea_cons (ed_var 3) (ea_cons (ed_var 4) ea_nil)) ⟨_, _, hW.at_ i, hW.at_ j, rfl, rfl⟩) (ed_fld (ed_co 0) Z.cls_Costs Z.na_Costs_ahead rfl) (ed_tup (ea_cons (ed_var 1) (ea_cons (ed_var 2) ea_nil))) (by have := hC.lb; show x.2.1.length ≤ _; omega) ?_
    refine sds_tput 0 2 (a := a) (b := b) (c := c) (x := (putT x.1 (pk i j) (.int (aloneN (wd ws i) (wd ws j) : Nat)), putT x.2.1 (pk i j) (.lst (ntl (sideL (wd ws i) (wd ws j)))), x.2.2)) hu (ed_call (p_side_costs Z) hr (ea_cons (ed_is (ed_revS (ed_var 3) (by rw [mk_len]; have := hW.at_ i; exact sl_le (by omega))) (back_mk _)) (ea_cons (ed_is (ed_revS (ed_var 4) (by rw [mk_len]; have := hW.at_ j; exact sl_le (by omega))) (back_mk _)) ea_nil)) ⟨_, _, by rw [List.length_reverse]; exact hW.at_ i, by rw [List.length_reverse]; exact hW.at_ j, rfl, rfl⟩) (ed_fld (ed_co 0) Z.cls_Costs Z.na_Costs_behind rfl) (ed_tup (ea_cons (ed_var 1) (ea_cons (ed_var 2) ea_nil))) (by have := hC.lc; show x.2.2.length ≤ _; omega) ?_
    exact sds_nil ⟨put3 ws x i j, _, _, rfl, hC.put.1, hC.put.2.1, hC.put.2.2⟩
  · exact sds_nil ⟨x, none, none, rfl, hC.mono (by omega), by have h2 : (valT (kt3 x 0) (pk i j)).isSome = true := (by simpa using h); exact h2, fun _ _ h => h⟩
  · rintro δ' ⟨x', o3, o4, rfl, h1, h2, h3⟩
    exact sds_ret (ed_tget 0 0 (x := x') hu (ed_fld (ed_co 0) Z.cls_Costs Z.na_Costs_alone rfl) (ed_tup (ea_cons (ed_var 1) (ea_cons (ed_var 2) ea_nil))) (h1.get hi hj h2).1) ⟨x', rfl, hΦ x' h1 h2 h3⟩
end
end AP
end
/-! AP21 -/
section
set_option Elab.async false
set_option linter.all false
set_option maxRecDepth 100000
set_option maxHeartbeats 4000000
namespace AP
open PySem PySem.Spec PyProof.Rows L2 AL AZ
theorem sideL_len (a b : List Nat) : (sideL a b).length = b.length + 1 := by
  have hbl := best_len (copT a b) b (copT a b).length
  have hne : bestP (copT a b) b (copT a b).length ≠ [] := fun z => by rw [z] at hbl; simp at hbl
  unfold sideL
  rw [List.length_map, List.getLastD_eq_getLast?, List.getLast?_eq_some_getLast hne]
  exact rows_row _ _ _ _ _ (List.getLast_mem hne)
def overN (ws : List (List Nat)) (i j k : Nat) : Nat := borderN (sideL (wd ws i) (wd ws k)) (sideL (wd ws j).reverse (wd ws k).reverse)
def costN (ws : List (List Nat)) (t : Nat × Nat × Nat) : Nat := if t.1 = t.2.1 then aloneN (wd ws t.1) (wd ws t.2.2) else overN ws t.1 t.2.1 t.2.2
def ROver (wdt : Dt) (x : K3) (ds : List Dt) (Φ : Dt → K3 → Prop) : Prop := ∃ (ws : List (List Nat)) (i j k n : Nat), Wds ws ∧ i < ws.length ∧ j < ws.length ∧ k < ws.length ∧ n ≤ 40000 ∧ Cok ws x n ∧ wdt = .tup (wordsD ws) ∧ ds = [.int (i : Nat), .int (j : Nat), .int (k : Nat)] ∧ ∀ x', Cok ws x' (n + 2) → Φ (.int (overN ws i j k : Nat)) x'
def RTri (wdt : Dt) (x : K3) (ds : List Dt) (Φ : Dt → K3 → Prop) : Prop := ∃ (ws : List (List Nat)) (i j k n : Nat), Wds ws ∧ i < ws.length ∧ j < ws.length ∧ k < ws.length ∧ n ≤ 40000 ∧ Cok ws x n ∧ wdt = .tup (wordsD ws) ∧ ds = [.int (i : Nat), .int (j : Nat), .int (k : Nat)] ∧ ∀ x', Cok ws x' (n + 2) → Φ (.int (costN ws (i, j, k) : Nat)) x'
section
variable {P : Program} {w : World} {K : PySem.W.Frag} {mg : Str → Option Value} {base : Heap}
theorem m_over (Z : Zc K mg) : MetC P w K mg base 5 (He.ga K "Costs") nsC "over" ROver 4 := by
  obtain ⟨fd, F⟩ := Z.d_Costs_over
  have b : Binds K fd P_Costs_over [] := F.bindsN fun _ _ _ _ _ _ us hl => match us, hl with | [_, _, _, _], _ => rfl
  refine ⟨_, fd, P_Costs_over, fnOkC_of F S_Costs_over rfl ?_, Z.cls_Costs, Z.me_Costs_over, b⟩
  rintro cdv A outer s H E a b c wdt x ds Φ hr ⟨ws, i, j, k, n, hW, hi, hj, hk, hn, hC, rfl, rfl, hΦ⟩
  have hu := hr.units
  refine sds_dropF (F := coF (coD (He.ga K "Costs") nsC (.tup (wordsD ws)) a b c) a b c) (n := 0) (Φ := fun _ x' => Cok ws x' (n + 1) ∧ Has x' i k) (ef_methC (m_of Z) hr (ea_cons (ed_var 1) (ea_cons (ed_var 3) ea_nil)) (y := x) ⟨ws, i, k, n, hW, hi, hk, by omega, hC, rfl, rfl, fun x' h1 h2 _ => ⟨h1, h2⟩⟩) fun d x1 ⟨h1, h2⟩ => ?_
  refine sds_dropF (F := coF (coD (He.ga K "Costs") nsC (.tup (wordsD ws)) a b c) a b c) (n := 0) (Φ := fun _ x' => Cok ws x' (n + 1 + 1) ∧ Has x' j k ∧ ∀ p q, Has x1 p q → Has x' p q) (ef_methC (m_of Z) hr (ea_cons (ed_var 2) (ea_cons (ed_var 3) ea_nil)) (y := x1) ⟨ws, j, k, n + 1, hW, hj, hk, by omega, h1, rfl, rfl, fun x' h1 h2 h3 => ⟨h1, h2, h3⟩⟩) fun d2 x2 ⟨h3, h4, h5⟩ => ?_
  refine sds_ret (ed_call (p_border_cost Z) hr (ea_cons (ed_tget (a := a) (b := b) (c := c) 0 1 (x := x2) hu (ed_fld (ed_co 0) Z.cls_Costs Z.na_Costs_ahead rfl) (ed_tup (ea_cons (ed_var 1) (ea_cons (ed_var 3) ea_nil))) (h3.get hi hk (h5 _ _ h2)).2.1) (ea_cons (ed_tget (a := a) (b := b) (c := c) 0 2 (x := x2) hu (ed_fld (ed_co 0) Z.cls_Costs Z.na_Costs_behind rfl) (ed_tup (ea_cons (ed_var 2) (ea_cons (ed_var 3) ea_nil))) (h3.get hj hk h4).2.2) ea_nil)) ⟨_, _, by rw [sideL_len]; omega, by rw [sideL_len]; have := hW.at_ k; omega, by rw [sideL_len, sideL_len, List.length_reverse], rfl, rfl⟩) ⟨x2, rfl, hΦ x2 h3⟩
theorem m_triple (Z : Zc K mg) : MetC P w K mg base 6 (He.ga K "Costs") nsC "triple" RTri 4 := by
  obtain ⟨fd, F⟩ := Z.d_Costs_triple
  have b : Binds K fd P_Costs_triple [] := F.bindsN fun _ _ _ _ _ _ us hl => match us, hl with | [_, _, _, _], _ => rfl
  refine ⟨_, fd, P_Costs_triple, fnOkC_of F S_Costs_triple rfl ?_, Z.cls_Costs, Z.me_Costs_triple, b⟩
  rintro cdv A outer s H E a b c wdt x ds Φ hr ⟨ws, i, j, k, n, hW, hi, hj, hk, hn, hC, rfl, rfl, hΦ⟩
  refine sds_retF (F := coF (coD (He.ga K "Costs") nsC (.tup (wordsD ws)) a b c) a b c) (i := 0) (Φ := Φ) (ef_if (k := decide (i = j)) (et_cmp (ed_var 1) (ed_var 2) (opd_b (opd_eq (i := (i : Int)) (j := (j : Int))) (decide_eq_decide.mpr (by omega)))) (fun h => ?_) (fun h => ?_)) fun d y hy => ⟨y, rfl, hy⟩
  · have e : i = j := of_decide_eq_true h
    refine ef_methC (m_of Z) hr (ea_cons (ed_var 1) (ea_cons (ed_var 3) ea_nil)) (y := x) ⟨ws, i, k, n, hW, hi, hk, by omega, hC, rfl, rfl, fun x' h1 h2 _ => ?_⟩
    have := hΦ x' (h1.mono (by omega))
    unfold costN at this
    rw [if_pos e] at this
    exact this
  · have e : ¬ i = j := of_decide_eq_false h
    refine ef_methC (m_over Z) hr (ea_cons (ed_var 1) (ea_cons (ed_var 2) (ea_cons (ed_var 3) ea_nil))) (y := x) ⟨ws, i, j, k, n, hW, hi, hj, hk, hn, hC, rfl, rfl, fun x' h1 => ?_⟩
    have := hΦ x' h1
    unfold costN at this
    rw [if_neg e] at this
    exact this
end
end AP
end
/-! AP22 -/
section
set_option Elab.async false
set_option linter.all false
set_option maxRecDepth 100000
set_option maxHeartbeats 4000000
namespace AP
open PySem PySem.Spec PyProof.Rows L2 AL AZ
section
variable {P : Program} {w : World} {K : PySem.W.Frag} {mg : Str → Option Value} {base : Heap}
theorem m_Costs (Z : Zc K mg) : MakC P w K mg base 1 "Costs" (He.ga K "Costs") nsC (fun ds d => ∃ ws, ds = [.tup (wordsD ws)] ∧ d = .tup (wordsD ws)) 2 := by
  obtain ⟨fd, F⟩ := Z.d_Costs__init
  have b : Binds K fd P_Costs__init [] := F.bindsN fun _ _ _ _ _ _ us hl => match us, hl with | [_, _], _ => rfl
  refine ⟨_, fd, P_Costs__init, Z.mk_Costs, F.ok S_Costs__init (fun vs H Q E ⟨G, p, dx, as, ds, d, h1, h2, _, _, _, h3, _⟩ => by rw [h1, List.length_cons, h3.length, h2]; rfl) ?_, Z.g_Costs, b⟩
  rintro cdv A outer s H vs Q E hr ⟨G, p, dx, as, ds, d, rfl, h2, e, hp, gp, r, ⟨ws, rfl, rfl⟩, q⟩
  have hpn : H p ≠ none := ne_none hp
  refine ⟨_, PSs.nox (pss_cons (ps_fld (pv 0) (ed_ct (δ := argsD N_Costs__init [.adr p, .tup (wordsD ws)]) (ea_cons (ed_var 1) ea_nil) cld_tupT Z.f_tuple) (by rfl)) (pss_cons (ps_fld (pv 0) pe_dnewT (by rfl)) (pss_cons (ps_fld (pv 0) pe_dnewT (by rfl)) (pss_one (ps_fld (pv 0) pe_dnewT (by rfl)))))), ?_⟩
  have s0 := Sl.start (O := ⟨[p], H⟩) (H := H) (N := N_Costs__init) (RpL.cons (Rp.adr (K := K) (G := G) p) r)
  have at0 : (start N_Costs__init (.ref p :: as))[0]? = some (some (.ref p)) := by
    unfold L2.start
    simp
  refine ⟨_, G, e, s0, fun y G1 H1 f1 r1 => ⟨_, at0, p, _, dx, [], rfl, f1.same _ _ hp, Z.cls_Costs, Z.na_Costs_words, by decide, ?_⟩⟩
  have g1 : G1 p = none := f1.n _ hpn gp
  have fr1 : Fr [p] G H G1 (upd H1 p (.ins (He.ga K "Costs") dx (putF "words" y []))) := f1.wide.write (.inr (List.mem_cons_self ..)) g1
  generalize hH : upd H1 p (.ins (He.ga K "Costs") dx (putF "words" y [])) = Ha at fr1
  have a1 : Ha p = some (.ins (He.ga K "Costs") dx (putF "words" y [])) := by rw [← hH]; exact upd_same
  show ∀ l, Ha l = none → _
  intro la hla
  obtain ⟨fr2, b1, b2, b3, b4, b5, b6⟩ := dict_step (K := K) (f := "alone") hpn fr1 a1 g1 hla
  refine ⟨_, at0, p, _, dx, _, rfl, by rw [upd_ne b5.symm]; exact a1, Z.cls_Costs, Z.na_Costs_alone, by exact (show 1 < 1000 by decide), ?_⟩
  generalize upd (upd Ha la (.dT [])) p (.ins (He.ga K "Costs") dx (putF "alone" (.ref la) (putF "words" y []))) = Hb at *
  show ∀ l, Hb l = none → _
  intro lb hlb
  obtain ⟨fr3, c1, c2, c3, c4, c5, c6⟩ := dict_step (K := K) (f := "ahead") hpn fr2 b1 g1 hlb
  refine ⟨_, at0, p, _, dx, _, rfl, by rw [upd_ne c5.symm]; exact b1, Z.cls_Costs, Z.na_Costs_ahead, by exact (show 2 < 1000 by decide), ?_⟩
  have d2 := c6 la _ b5 b2
  have nab : la ≠ lb := fun z => by subst z; rw [b2] at hlb; cases hlb
  generalize upd (upd Hb lb (.dT [])) p (.ins (He.ga K "Costs") dx (putF "ahead" (.ref lb) (putF "alone" (.ref la) (putF "words" y [])))) = Hc at *
  show ∀ l, Hc l = none → _
  intro lc hlc
  obtain ⟨fr4, k1, k2, k3, k4, k5, k6⟩ := dict_step (K := K) (f := "behind") hpn fr3 c1 g1 hlc
  refine ⟨_, at0, p, _, dx, _, rfl, by rw [upd_ne k5.symm]; exact c1, Z.cls_Costs, Z.na_Costs_behind, by exact (show 3 < 1000 by decide), ?_⟩
  have e2 := k6 la _ b5 d2
  have e3 := k6 lb _ c5 c2
  have nac : la ≠ lc := fun z => by subst z; rw [d2] at hlc; cases hlc
  have nbc : lb ≠ lc := fun z => by subst z; rw [c2] at hlc; cases hlc
  refine q _ dx la lb lc G1 _ fr4 k1 rfl (.cons r1 (.cons (.adr _) (.cons (.adr _) (.cons (.adr _) .nil)))) g1 ⟨⟨_, e2, .nil⟩, ⟨_, e3, .nil⟩, ⟨_, k2, .nil⟩, nab, nac, nbc, fun l hl => ?_⟩
  rcases List.mem_cons.mp hl with rfl | hl
  · exact ⟨b3, .inl b4⟩
  · rcases List.mem_cons.mp hl with rfl | hl
    · exact ⟨c3, .inl c4⟩
    · obtain rfl := List.mem_singleton.mp hl
      exact ⟨k3, .inl k4⟩
end
end AP
end
/-! AP23 -/
section
set_option Elab.async false
set_option linter.all false
set_option maxRecDepth 100000
set_option maxHeartbeats 4000000
namespace AL
open PySem L2
theorem ef_ct {F : Eff} {i : Nat} {X : Cx} {δ : De} {e : Expr} {Φ : Dt → F.ι → Prop} {Ψ : List Dt → F.ι → Prop} {T : String} {x : Str} {es : List Expr} {p pos : Pos} (ha : EAF F i X δ (e :: es) Ψ) (hc : ∀ ds y, Ψ ds y → ∃ r, ClD X (.type T) ds r ∧ Φ r y) (hm : X.mg x = none) (hv : bootBuiltins x = some (.type T) := by decide +kernel) (hg : Gl X x := by rfl) (hn : x ≠ "__name__" := by decide) (hdb : (x == ("__debug__" : Str)) = false := by decide)
    (he : starEach (e :: es) X.env = (false, eval e X.env) :: starEach es X.env := by rfl) (hpl : (backTo pos (starEach es X.env)).any (·.1) = false := by rfl) : EF F i X δ (.Call (.Name x p) (e :: es) [] pos) Φ :=
  PE.imp (pe_callTy (CallR.ex fun p : { p : List Dt × Dt // ClD X (.type T) p.1 p.2 } => p.2) hg hm hv ha hn hdb he hpl) fun σ H Q ⟨O, G, e, s, q⟩ => ⟨O, G, e, s, fun vs ds y G1 H1 f1 s1 r1 h1 => by
    obtain ⟨r, o, hΦ⟩ := hc ds y h1
    exact ⟨⟨(ds, r), o⟩, G1, f1.s, r1, fun u G2 H2 f2 r2 => q u r y G2 H2 (f1.trans f2.wide) (s1.mono f2) r2 hΦ⟩⟩
end AL
namespace AP
open PySem PySem.Spec PyProof.Rows L2 AL AZ
abbrev T3 := Nat × Nat × Nat
def stepB (ws : List (List Nat)) (b : Option (Nat × T3)) (t : T3) : Option (Nat × T3) := match b with
  | none => some (costN ws t, t)
  | some (c, u) => if costN ws t < c then some (costN ws t, t) else some (c, u)
def bestB (ws : List (List Nat)) (ts : List T3) : Option (Nat × T3) := ts.foldl (stepB ws) none
def optD : Option (Nat × T3) → Dt
  | none => .non
  | some (c, t) => .tup [.int (c : Nat), trD t]
theorem bestB_take {ws : List (List Nat)} {ts : List T3} {i : Nat} {t : T3} (h : ts[i]? = some t) : bestB ws (ts.take (i + 1)) = stepB ws (bestB ws (ts.take i)) t := by
  unfold bestB
  rw [List.take_add_one, h, Option.toList_some, List.foldl_append]
  rfl
theorem tripL_mem {n : Nat} {t : T3} (h : t ∈ tripL n) : t.1 < n ∧ t.2.1 < n ∧ t.2.2 < n ∧ t.2.2 ≠ t.1 ∧ t.2.2 ≠ t.2.1 := by
  unfold tripL tripR tripO at h
  simp only [List.mem_flatMap, List.mem_map, List.mem_filter, List.mem_range] at h
  obtain ⟨i, hi, j, hj, k, ⟨hk, hn⟩, rfl⟩ := h
  have : ¬ (k = i ∨ k = j) := by simpa using hn
  exact ⟨hi, hj, hk, fun z => this (.inl z), fun z => this (.inr z)⟩
theorem tripL_len {n : Nat} (h : n ≤ 20) : (tripL n).length ≤ 8000 := by
  have h2 : ∀ i, (tripR n i).length ≤ n * n := fun i => by
    have := fm_len (f := tripO n i) (b := n) (l := List.range n) fun y _ => tripO_len n i y
    rw [List.length_range] at this
    exact this
  have := fm_len (f := tripR n) (b := n * n) (l := List.range n) fun x _ => h2 x
  rw [List.length_range] at this
  have b3 : n * n * n ≤ 20 * 20 * 20 := Nat.mul_le_mul (Nat.mul_le_mul h h) h
  exact Nat.le_trans this b3
section
variable {P : Program} {w : World} {K : PySem.W.Frag} {mg : Str → Option Value} {base : Heap}
theorem Cok.zero (ws : List (List Nat)) (n : Nat) : Cok ws ([], [], []) n := ⟨Nat.zero_le _, Nat.zero_le _, Nat.zero_le _, fun i j _ _ d h => nomatch (show none = some d from h)⟩
theorem p_cheapest (Z : Zc K mg) : FnP P w K mg base 7 "cheapest" (fun ds d => ∃ ws, Wds ws ∧ ds = [.tup (wordsD ws)] ∧ d = optD (bestB ws (tripL ws.length))) 1 [] :=
  Z.mk_cheapest fun cdv A outer s H E ds d hr ⟨ws, hW, e1, e2⟩ => by
    subst e1 e2
    have hwl : (wordsD ws).length = ws.length := by simp [wordsD]
    have htl := tripL_len hW.n
    refine sds_par2Co 1 2 (eco_make (m_Costs Z) hr (ea_cons (ed_var 0) ea_nil) ⟨ws, rfl, rfl⟩) ed_non (fun a b c => ?_) S_cheapest.nd
    refine sds_cons (M := fun δ' => ∃ x o3 o4, δ' = [some (.sh (.tup (wordsD ws))), some (.co (coD (He.ga K "Costs") nsC (.tup (wordsD ws)) a b c) (tri a b c x)), some (.sh (optD (bestB ws (tripL ws.length)))), o3, o4]) (sd_for (ds := (tripL ws.length).map trD) (vs := [3]) (δt := fun i δ' => δ'.set 3 (some (.sh (((tripL ws.length).map trD).getD i .non)))) (fun i δ' => ∃ x o3 o4, δ' = [some (.sh (.tup (wordsD ws))), some (.co (coD (He.ga K "Costs") nsC (.tup (wordsD ws)) a b c) (tri a b c x)), some (.sh (optD (bestB ws ((tripL ws.length).take i)))), o3, o4] ∧ Cok ws x (2 * i)) (id_list (ed_call (p_triples_of Z) hr (ea_cons (ed_cb (ea_cons (ed_var 0) ea_nil) cld_lenT Z.f_len) ea_nil) ⟨ws.length, hW.n, by rw [hwl]; rfl, rfl⟩)) ⟨([], [], []), none, none, rfl, Cok.zero ws _⟩ ?_ ?_ ?_) ?_
    · rintro i d δ' hd ⟨x, o3, o4, rfl, hC⟩
      rw [getD_of hd]
      exact gd_name 3 S_cheapest.nd
    · rintro i d δ' hd ⟨x, o3, o4, rfl, hC⟩
      rw [getD_of hd]
      rw [List.getElem?_map] at hd
      obtain ⟨t, ht, rfl⟩ := Option.map_eq_some_iff.mp hd
      have hil : i < (tripL ws.length).length := (List.getElem?_eq_some_iff.mp ht).1
      obtain ⟨t1, t2, t3⟩ := t
      obtain ⟨m1, m2, m3, _, _⟩ := tripL_mem (List.mem_of_getElem? ht)
      rw [show bestB ws ((tripL ws.length).take i) = bestB ws ((tripL ws.length).take i) from rfl]
      generalize hB : bestB ws ((tripL ws.length).take i) = B
      refine sds_setF (F := coF (coD (He.ga K "Costs") nsC (.tup (wordsD ws)) a b c) a b c) (i := 1) (Φ := fun d x' => d = .int (costN ws (t1, t2, t3) : Nat) ∧ Cok ws x' (2 * i + 2)) 4 (ef_methC (m_triple Z) hr (ea_cons (ed_at_int (i := 0) (ed_var (d := trD (t1, t2, t3)) 3) ed_int rfl) (ea_cons (ed_at_int (i := 1) (ed_var (d := trD (t1, t2, t3)) 3) ed_int rfl) (ea_cons (ed_at_int (i := 2) (ed_var (d := trD (t1, t2, t3)) 3) ed_int rfl) ea_nil))) (y := x) ⟨ws, t1, t2, t3, 2 * i, hW, m1, m2, m3, by omega, hC, rfl, rfl, fun x' h1 => ⟨rfl, h1⟩⟩) (fun d x' ⟨e, h1⟩ => ?_) S_cheapest.nd
      subst e
      have fin : ∀ δ' : De, (∃ o3 o4, δ' = [some (.sh (.tup (wordsD ws))), some (.co (coD (He.ga K "Costs") nsC (.tup (wordsD ws)) a b c) (tri a b c x')), some (.sh (optD (stepB ws B (t1, t2, t3)))), o3, o4]) → ∃ x o3 o4, δ' = [some (.sh (.tup (wordsD ws))), some (.co (coD (He.ga K "Costs") nsC (.tup (wordsD ws)) a b c) (tri a b c x)), some (.sh (optD (bestB ws ((tripL ws.length).take (i + 1))))), o3, o4] ∧ Cok ws x (2 * (i + 1)) := by
        rintro δ' ⟨o3, o4, rfl⟩
        exact ⟨x', o3, o4, by rw [bestB_take ht, hB], h1⟩
      cases B with
      | none =>
        refine sds_if _ (k := true) (et_w (ew_or (k := true) (k' := false) (et_cmp (ed_var (d := .non) 2) ed_non opd_isN) fun h => nomatch h)) (fun _ => ?_) (fun h => nomatch h) (fun δ' h => sds_nil (fin δ' h))
        exact sds_set 2 (ed_tup (ea_cons (ed_var 4) (ea_cons (ed_var 3) ea_nil))) (sds_nil ⟨_, _, rfl⟩) S_cheapest.nd
      | some B =>
        obtain ⟨c0, u⟩ := B
        refine sds_if _ (k := false || decide (costN ws (t1, t2, t3) < c0)) (et_w (ew_or (k := false) (et_cmp (ed_var (d := .tup [.int (c0 : Nat), trD u]) 2) ed_non opd_isN) fun _ => ew_or1 (et_cmp (ed_var 4) (ed_at_int (i := 0) (ed_var (d := .tup [.int (c0 : Nat), trD u]) 2) ed_int rfl) (opd_b opd_lt (decide_eq_decide.mpr (by omega)))))) (fun h => ?_) (fun h => ?_) (fun δ' h => sds_nil (fin δ' h))
        · have h' : costN ws (t1, t2, t3) < c0 := by simpa using h
          refine sds_set 2 (ed_tup (ea_cons (ed_var 4) (ea_cons (ed_var 3) ea_nil))) (sds_nil ⟨some (.sh (trD (t1, t2, t3))), some (.sh (.int (costN ws (t1, t2, t3) : Nat))), ?_⟩) S_cheapest.nd
          unfold stepB
          dsimp only
          rw [if_pos h']
          rfl
        · have h' : ¬ costN ws (t1, t2, t3) < c0 := by simpa using h
          refine sds_nil ⟨some (.sh (trD (t1, t2, t3))), some (.sh (.int (costN ws (t1, t2, t3) : Nat))), ?_⟩
          unfold stepB
          dsimp only
          rw [if_neg h']
          rfl
    · rintro δ' ⟨x, o3, o4, rfl, hC⟩
      rw [List.length_map, List.take_length]
      exact ⟨x, o3, o4, rfl⟩
    · rintro δ' ⟨x, o3, o4, rfl⟩
      exact sds_ret (ed_var 2) rfl
end
end AP
end
/-! AP24 -/
section
set_option Elab.async false
set_option linter.all false
set_option maxRecDepth 100000
set_option maxHeartbeats 4000000
namespace AP
open PySem PySem.Spec PyProof.Rows L2 AL AZ
def priceD (ws : List (List Nat)) : Dt := match bestB ws (tripL ws.length) with
  | none => .non
  | some (c, _) => .int (c : Nat)
def madeW (ws : List (List Nat)) (m : Nat) : List T3 := (tripL ws.length).filter fun t => decide (costN ws t ≤ m)
section
variable {P : Program} {w : World} {K : PySem.W.Frag} {mg : Str → Option Value} {base : Heap}
theorem p_price (Z : Zc K mg) : FnP P w K mg base 8 "price" (fun ds d => ∃ ws, Wds ws ∧ ds = [bookD K ws] ∧ d = priceD ws) 1 [] :=
  Z.mk_price fun cdv A outer s H E ds d hr ⟨ws, hW, e1, e2⟩ => by
    subst e1 e2
    refine sds_drop (ed_call (p_need_book Z) hr (ea_cons (ed_var 0) ea_nil) ⟨ws, _, rfl, rfl⟩) ?_
    refine sds_set 1 (ed_call (p_cheapest Z) hr (ea_cons (ed_fld (ed_var (d := bookD K ws) 0) Z.cls_Book Z.na_Book_words rfl) ea_nil) ⟨ws, hW, rfl, rfl⟩) ?_ S_price.nd
    unfold priceD
    cases hB : bestB ws (tripL ws.length) with
    | none => exact sds_ret (ed_ifT (et_cmp (ed_var (d := .non) 1) ed_non opd_isN) ed_non) rfl
    | some B =>
      obtain ⟨c, u⟩ := B
      exact sds_ret (ed_ifF (et_cmp (ed_var (d := .tup [.int (c : Nat), trD u]) 1) ed_non opd_isN) (ed_at_int (i := 0) (ed_var (d := .tup [.int (c : Nat), trD u]) 1) ed_int rfl)) rfl
theorem p_made_words (Z : Zc K mg) : FnP P w K mg base 7 "made_words" (fun ds d => ∃ ws m, Wds ws ∧ m ≤ 4 ∧ ds = [bookD K ws, .int (m : Nat)] ∧ d = .tup ((madeW ws m).map trD)) 2 [] :=
  Z.mk_made_words fun cdv A outer s H E ds d hr ⟨ws, m, hW, hm, e1, e2⟩ => by
    subst e1 e2
    have hwl : (wordsD ws).length = ws.length := by simp [wordsD]
    have htl := tripL_len hW.n
    refine sds_drop (ed_call (p_need_book Z) hr (ea_cons (ed_var 0) ea_nil) ⟨ws, _, rfl, rfl⟩) ?_
    refine sds_drop (ed_call (p_need_number Z) hr (ea_cons (ed_var 1) (ea_cons ed_str (ea_cons ed_int (ea_cons (ed_gi Z.c_MOST_MADE) ea_nil)))) (.mk _ _ _ _ (by omega) (by omega))) ?_
    refine sds_setCo 2 (eco_make (m_Costs Z) hr (ea_cons (ed_fld (ed_var (d := bookD K ws) 0) Z.cls_Book Z.na_Book_words rfl) ea_nil) ⟨ws, rfl, rfl⟩) (fun a b c => ?_) S_made_words.nd
    refine sds_set 3 (ed_call (p_triples_of Z) hr (ea_cons (ed_cb (ea_cons (ed_fld (ed_var (d := bookD K ws) 0) Z.cls_Book Z.na_Book_words rfl) ea_nil) cld_lenT Z.f_len) ea_nil) ⟨ws.length, hW.n, by rw [hwl]; rfl, rfl⟩) ?_ S_made_words.nd
    refine sds_retF (F := coF (coD (He.ga K "Costs") nsC (.tup (wordsD ws)) a b c) a b c) (i := 2) (Φ := fun d _ => d = .tup ((madeW ws m).map trD)) (ef_ct (Ψ := fun ds _ => ds = [.lst ((madeW ws m).map trD)]) (eaf_cons (fun d _ => d = .lst ((madeW ws m).map trD)) (ef_imp (ef_lcIf (F := coF (coD (He.ga K "Costs") nsC (.tup (wordsD ws)) a b c) a b c) (i := 2) (ds := (tripL ws.length).map trD) 4 (fun k acc x => acc = (((tripL ws.length).take k).filter fun t => decide (costN ws t ≤ m)).map trD ∧ Cok ws x (2 * k)) ⟨rfl, Cok.zero ws _⟩ (id_list (ed_var 3)) (blkOk_by (by kernel_rfl)) S_made_words.nd id (fun s H C cl fp k acc y d hd ⟨ha, hC⟩ => ?_) (fun s H C cl fp y d hd => ed_var 4) (by rw [List.length_map]; omega)) (fun d y ⟨acc, e, ha, hC⟩ => ?_)) (fun d y h => eaf_nil y (by rw [h]))) (fun ds y h => ⟨_, h ▸ cld_tupL, rfl⟩) Z.f_tuple) (fun d y h => h)
    · rw [List.getElem?_map] at hd
      obtain ⟨t, ht, rfl⟩ := Option.map_eq_some_iff.mp hd
      have hil : k < (tripL ws.length).length := (List.getElem?_eq_some_iff.mp ht).1
      obtain ⟨t1, t2, t3⟩ := t
      obtain ⟨m1, m2, m3, _, _⟩ := tripL_mem (List.mem_of_getElem? ht)
      refine etf_cmp (fun d x' => d = .int (costN ws (t1, t2, t3) : Nat) ∧ Cok ws x' (2 * k + 2)) (ef_methC (m_triple Z) hr (ea_cons (ed_at_int (i := 0) (ed_var (d := trD (t1, t2, t3)) 4) ed_int rfl) (ea_cons (ed_at_int (i := 1) (ed_var (d := trD (t1, t2, t3)) 4) ed_int rfl) (ea_cons (ed_at_int (i := 2) (ed_var (d := trD (t1, t2, t3)) 4) ed_int rfl) ea_nil))) (y := y) ⟨ws, t1, t2, t3, 2 * k, hW, m1, m2, m3, by omega, hC, rfl, rfl, fun x' h1 => ⟨rfl, h1⟩⟩) fun d x' ⟨e, h1⟩ => ⟨_, ed_var 1, decide (costN ws (t1, t2, t3) ≤ m), by rw [e]; exact opd_b opd_le (decide_eq_decide.mpr (by omega)), ?_, h1⟩
      rw [List.take_add_one, ht, Option.toList_some, List.filter_append, List.map_append, ha]
      by_cases h : costN ws (t1, t2, t3) ≤ m
      · simp [h]
      · simp [h]
    · rw [e, ha, List.length_map, List.take_length]
      rfl
end
end AP
end
/-! AP25 -/
section
set_option Elab.async false
set_option linter.all false
set_option maxRecDepth 100000
set_option maxHeartbeats 4000000
namespace AP
open PySem PySem.Spec PyProof.Rows L2 AL AZ
/-- lists as tuples, n levels deep -/
def fixD : Nat → Dt → Dt
  | n + 1, .lst ds => .tup (ds.map (fixD n))
  | n + 1, .tup ds => .tup (ds.map (fixD n))
  | _, d => d
/-- plain data, at most n levels -/
inductive Lv : Nat → Dt → Prop
  | int (n : Nat) (i : Int) : Lv n (.int i)
  | str (n : Nat) (x : Str) : Lv n (.str x)
  | lst (n : Nat) (ds : List Dt) : ds.length ≤ 1000 → (∀ d ∈ ds, Lv n d) → Lv (n + 1) (.lst ds)
  | tup (n : Nat) (ds : List Dt) : ds.length ≤ 1000 → (∀ d ∈ ds, Lv n d) → Lv (n + 1) (.tup ds)
section
variable {P : Program} {w : World} {K : PySem.W.Frag} {mg : Str → Option Value} {base : Heap}
theorem p_fixed (Z : Zc K mg) : ∀ n : Nat, FnP P w K mg base (n + 1) "fixed" (fun ds d => ∃ x, Lv n x ∧ ds = [x] ∧ d = fixD n x) 1 []
  | 0 => Z.mk_fixed fun cdv A outer s H E ds d hr ⟨x, hx, e1, e2⟩ => by
    subst e1 e2
    cases hx with
    | int _ i => exact sds_ifF (et_val (ed_cb (ea_cons (ed_var 0) (ea_cons (ed_tup (ea_cons (ed_gt Z.f_list) (ea_cons (ed_gt Z.f_tuple) ea_nil))) ea_nil)) (cld_isLT (b := false) rfl (by decide +kernel)) Z.f_isinstance)) (sds_ret (ed_var (d := .int i) 0) rfl)
    | str _ x => exact sds_ifF (et_val (ed_cb (ea_cons (ed_var 0) (ea_cons (ed_tup (ea_cons (ed_gt Z.f_list) (ea_cons (ed_gt Z.f_tuple) ea_nil))) ea_nil)) (cld_isLT (b := false) rfl (by decide +kernel)) Z.f_isinstance)) (sds_ret (ed_var (d := .str x) 0) rfl)
  | n + 1 => Z.mk_fixed fun cdv A outer s H E ds d hr ⟨x, hx, e1, e2⟩ => by
    subst e1 e2
    cases hx with
    | int _ i => exact sds_ifF (et_val (ed_cb (ea_cons (ed_var 0) (ea_cons (ed_tup (ea_cons (ed_gt Z.f_list) (ea_cons (ed_gt Z.f_tuple) ea_nil))) ea_nil)) (cld_isLT (b := false) rfl (by decide +kernel)) Z.f_isinstance)) (sds_ret (ed_var (d := .int i) 0) rfl)
    | str _ x => exact sds_ifF (et_val (ed_cb (ea_cons (ed_var 0) (ea_cons (ed_tup (ea_cons (ed_gt Z.f_list) (ea_cons (ed_gt Z.f_tuple) ea_nil))) ea_nil)) (cld_isLT (b := false) rfl (by decide +kernel)) Z.f_isinstance)) (sds_ret (ed_var (d := .str x) 0) rfl)
    | lst _ ds hl hd =>
      refine sds_ifT (et_val (ed_cb (ea_cons (ed_var 0) (ea_cons (ed_tup (ea_cons (ed_gt Z.f_list) (ea_cons (ed_gt Z.f_tuple) ea_nil))) ea_nil)) (cld_isLT (b := true) rfl (by decide +kernel)) Z.f_isinstance)) ?_
      exact sds_ret (d := .tup (ds.map (fixD n))) (ed_ct (ea_cons (ed_lcM 1 (fixD n) (id_list (ed_var (d := .lst ds) 0)) (blkOk_by (by kernel_rfl)) S_fixed.nd (fun s H C cl fp d h => ed_call (p_fixed Z n) hr (ea_cons (ed_var 1) ea_nil) ⟨d, hd d h, rfl, rfl⟩ (by omega)) (by omega)) ea_nil) cld_tupL Z.f_tuple) rfl
    | tup _ ds hl hd =>
      refine sds_ifT (et_val (ed_cb (ea_cons (ed_var 0) (ea_cons (ed_tup (ea_cons (ed_gt Z.f_list) (ea_cons (ed_gt Z.f_tuple) ea_nil))) ea_nil)) (cld_isLT (b := true) rfl (by decide +kernel)) Z.f_isinstance)) ?_
      exact sds_ret (d := .tup (ds.map (fixD n))) (ed_ct (ea_cons (ed_lcM 1 (fixD n) (id_tup (ed_var (d := .tup ds) 0)) (blkOk_by (by kernel_rfl)) S_fixed.nd (fun s H C cl fp d h => ed_call (p_fixed Z n) hr (ea_cons (ed_var 1) ea_nil) ⟨d, hd d h, rfl, rfl⟩ (by omega)) (by omega)) ea_nil) cld_tupL Z.f_tuple) rfl
end
end AP
end
/-! AP26 -/
section
set_option Elab.async false
set_option linter.all false
set_option maxRecDepth 100000
set_option maxHeartbeats 4000000
namespace AP
open PySem PySem.Spec PyProof.Rows L2 AL AZ
/-- what Paper.__init__ promises: the word, the parts as tuples -/
def spPI (K : PySem.W.Frag) : Sp := fun vs H Q _ => ∃ (G : Hp) (p dx C : Addr) (as : List V) (wd : Dt) (ds : List Dt), vs = .ref p :: as ∧ Same G H ∧ H p = some (.ins C dx []) ∧ G p = none ∧ RpL K G as [wd, .tup ds] ∧ ds.length ≤ 1000 ∧ (∀ d ∈ ds, Lv 2 d) ∧ Cls K C ∧ NoAttr K C "word" ∧ NoAttr K C "parts" ∧
  ∀ fs dx' G' H', Fr [p] G H G' H' → H' p = some (.ins C dx' fs) → fs.map (·.1) = [("word" : Str), "parts"] → RpL K G' (fs.map (·.2)) [wd, .tup (ds.map (fixD 2))] → G' p = none → Q .non H'
def spPR (K : PySem.W.Frag) : Sp := fun vs H Q E => ∃ ws rest, vs = ws ++ rest ∧ ws.length = 2 ∧ rest.length ≤ sizeLine ∧ ∀ p, H p = none → spPI K (ws ++ [V.ref p]) (upd H p (.tup rest)) Q E
section
variable {P : Program} {w : World} {K : PySem.W.Frag} {mg : Str → Option Value} {base : Heap}
theorem r_Paper (Z : Zd K mg) : FnR P w K mg base CX0 5 (He.fAd K ("Paper", some "__init__")) (spPR K) := by
  obtain ⟨fd, F⟩ := Z.d_Paper__init
  obtain ⟨oc, od, dV, kV, doc, pm, an, cdv, ct, osl, rfl, lk, hcd, hD, _⟩ := F.ex
  obtain rfl : dV = .none := by
    rcases hD with ⟨_, h⟩ | ⟨h, _⟩
    · exact h
    · exact absurd rfl h
  refine StX.fn_star (k := 4) (ps := ["self", "word"]) (pv := "parts") (sp := spPI K) lk hcd S_Paper__init StX.cxUp_none ?_ ?_
  · refine StX.bind_star2 (p1 := "self") (p2 := "word") (pv := "parts") (B := fun l => bindArgs (PySem.W.fnOf D_Paper__init.name D_Paper__init.qual (defArgs s_Paper__init) (defBody s_Paper__init) (defScope s_Paper__init) .none kV doc pm an cdv ct) ⟨l, []⟩) ?_ ?_
    · intro a b; rfl
    · intro a b r rs; rfl
  · rintro A outer s H vs Q E hr ⟨G, p, dx, C, as, wd, ds, rfl, e, hp, gp, r, hl, hd, c, n1, n2, q⟩
    refine ⟨_, PSs.nox (?_ : SDs _ [p] (obD N_Paper__init p C [wd, .tup ds]) _ { rt := fun _ _ => False, nx := fun δ' => δ'[0]? = some (some (.ob p C [("word" : Str), "parts"] [wd, .tup (ds.map (fixD 2))])) }), G, H, G, Fr.refl e, start_ob e hp gp (.inr (List.mem_cons_self ..)) r (by decide), ?_, ?_, fun _ _ _ _ z => z.elim, fun _ _ _ _ z => z.elim⟩
    · refine sds_fld 0 (ed_var 1) c n1 ?_
      exact sds_fld 0 (ed_call (p_fixed Z.z 3) hr (ea_cons (ed_var 2) ea_nil) ⟨.tup ds, .tup 2 ds hl hd, rfl, rfl⟩) c n2 (sds_nil rfl)
    · rintro σ' δ' H' ⟨G', e', fr, sl⟩ hd
      obtain ⟨w, g1, dx', fs, rfl, g2, g3, g4, g5, g6⟩ := sl.at_ 0 _ hd
      exact q fs dx' G' H' fr g2 g3 g4 g5
    · intro v d' σ' δ' G' H' _ fr _ r' z
      exact z.elim
end
end AP
end
/-! AP27 -/
section
set_option Elab.async false
set_option linter.all false
set_option maxRecDepth 100000
set_option maxHeartbeats 4000000
namespace AP
open PySem PySem.Spec PyProof.Rows L2 AL AZ NdefX
theorem start_F {K : PySem.W.Frag} {O : Og} {G H : Hp} {N : List Str} {vs : List V} {ws : List (Option V)} {ds : List Dt} (r : RpL K G vs ds) (hl : vs.length + ws.length ≤ N.length) : Sl K O G H (startF N vs ws) (argsD N ds) := by
  have s := Sl.start (O := O) (H := H) (N := N) r
  refine s.re ?_ fun i v t e q => ?_
  · unfold startF L2.start
    simp only [List.length_append, List.length_map, List.length_replicate]
    omega
  · have hi : i < vs.length := by
      unfold argsD at e
      by_cases hi : i < ds.length
      · rw [r.length]; exact hi
      · rw [List.getElem?_append_right (by simpa using hi), List.getElem?_replicate] at e
        split at e <;> cases e
    unfold L2.start at q
    unfold startF
    rw [List.getElem?_append_left (by simpa using hi)] at q ⊢
    exact q
section
variable {P : Program} {w : World} {K : PySem.W.Frag} {mg : Str → Option Value} {base : Heap}
/-- an own paper's __init__ -/
theorem fnOkS_of (Z : Zd K mg) {C qual : Str} {st : Stmt} {rest : List Stmt} {N ps : List Str} {ar : Arg} {e1 : Expr} {es : List Expr} {p0 p1 ap cp ep : Pos} {c cc : Addr} {fd : FuncData} {m k : Nat} {R : List Dt → List Str → List Dt → Prop}
    (D : SupD K "__init__" qual (defArgs st) (defBody st) (defScope st) fileS (He.ga K C) (He.ma K (He.ga K C) "__init__") (He.fAd K ("Paper", some "__init__")) c cc fd) (hP : Pf P fileS) (S : NScope N ps ["__class__"] (defScope st)) (hbody : defBody st = .Expr (.Call (.Attribute (.Call (.Name "super" p0) [] [] p1) "__init__" ap) (e1 :: es) [] cp) ep :: rest)
    (hm : ps.length = m) (hN1 : ps.length + 1 ≤ N.length) (har : ((defArgs st).posonlyargs ++ (defArgs st).args).head? = some ar) (hN : N[0]? = some ar.arg) (hka : (defScope st).names.lookup ar.arg = some .local) (hks : (defScope st).names.lookup ("super" : Str) = some .globalImplicit) (hloc : ∀ y ∈ ps, (defScope st).names.lookup y = some .local)
    (hk : 5 ≤ k) (cl : Cls K (He.ga K C)) (n1 : NoAttr K (He.ga K C) "word") (n2 : NoAttr K (He.ga K C) "parts")
    (hb : ∀ (A : Around) (outer : List Env) (s : Shared) (H : Hp) (E : XK) (p : Addr) (ds fds : List Dt) (ns : List Str), R ds ns fds →
      SupL (ncx CX0 P w K mg base N (nfS "__init__" qual (defArgs st) (defBody st) (defScope st) c cc) (He.ma K (He.ga K C) "__init__") A outer s H E) e1 es p0 p1 ap cp ep ∧ ∃ (wd : Dt) (dps : List Dt), dps.length ≤ 1000 ∧ (∀ d ∈ dps, Lv 2 d) ∧
        EA (ncx CX0 P w K mg base N (nfS "__init__" qual (defArgs st) (defBody st) (defScope st) c cc) (He.ma K (He.ga K C) "__init__") A outer s H E) (argsD N (.adr p :: ds)) (e1 :: es) (wd :: dps) ∧
        SDs (ncx CX0 P w K mg base N (nfS "__init__" qual (defArgs st) (defBody st) (defScope st) c cc) (He.ma K (He.ga K C) "__init__") A outer s H E) [p] ((argsD N (.adr p :: ds)).set 0 (some (.ob p (He.ga K C) [("word" : Str), "parts"] [wd, .tup (dps.map (fixD 2))]))) rest { rt := fun _ _ => False, nx := fun δ' => δ'[0]? = some (some (.ob p (He.ga K C) ns fds)) }) :
    FnOk P w K mg base CX0 (k + 1) (He.ma K (He.ga K C) "__init__") fd ps (spI K (He.ga K C) R m) := by
  refine fn_super D hP S hbody (fun vs H Q E ⟨G, p, dx, as, ds, fds, ns, h1, h2, _, _, _, h3, _⟩ => by rw [h1, List.length_cons, h3.length, h2, hm]) har hN hka hks Z.f_super hloc (r_Paper Z) hk ?_
  rintro A outer s H vs Q E hr ⟨G, p, dx, as, ds, fds, ns, rfl, h2, e, hp, gp, r, hR, q⟩
  obtain ⟨L, wd, dps, hl, hlv, hea, hsd⟩ := hb A outer s H E p ds fds ns hR
  have hvl : (V.ref p :: as).length + [some (V.ref (He.ga K C))].length ≤ N.length := by
    rw [List.length_cons, r.length, h2, ← hm]
    exact hN1
  have at0 : (startF N (.ref p :: as) [some (V.ref (He.ga K C))])[0]? = some (some (.ref p)) := rfl
  refine ⟨L, _, _, p, dx, [], hea, hsd, at0, hp, fun b hbn => ?_⟩
  have f0 : Fr [] G H G (upd H b (.met (He.fAd K ("Paper", some "__init__")) p)) := Fr.fresh e hbn
  refine ⟨⟨[p], H⟩, G, f0.s, (start_F (RpL.cons (.adr p) r) hvl), fun us G1 H1 f1 r1 => ⟨f1.same _ _ upd_same, ?_⟩⟩
  cases r1 with
  | @cons v0 rest _ _ rv rr =>
  have f01 := f0.trans f1
  refine ⟨[.ref p, v0], rest, rfl, rfl, by rw [rr.length]; exact Nat.le_of_lt (small1000 hl), fun p2 hp2 => ?_⟩
  have f2 := Fr.new (W := []) (o := .tup rest) f1.s hp2
  have f02 := f01.trans f2
  refine ⟨upd G1 p2 (.tup rest), p, dx, _, [v0, .ref p2], wd, dps, rfl, f2.s, f02.same _ _ hp, f02.n _ (ne_none hp) gp, .cons (rv.mono f2.g) (.cons (.tup upd_same (rr.mono f2.g)) .nil), hl, hlv, cl, n1, n2, fun fs dx' G' H' fr hp' hn hrr gp' => ?_⟩
  have fr3 : Fr [p] G H G' H' := f02.wide.trans fr
  refine ⟨G, H, G', fr3, ?_, ?_, ?_, fun _ _ _ _ z => z.elim, fun _ _ _ _ z => z.elim⟩
  · have s0 := start_F (O := ⟨[p], H⟩) (H := H') (N := N) (ws := [some (V.ref (He.ga K C))]) (RpL.cons (Rp.adr (K := K) (G := G') p) (r.mono fr3.g)) hvl
    rw [← set_self at0]
    refine s0.putN 0 (s := .ob p (He.ga K C) [("word" : Str), "parts"] [wd, .tup (dps.map (fixD 2))]) ⟨dx', fs, rfl, hp', hn, hrr, gp', .inr (List.mem_cons_self ..)⟩ fun i s' w hs hw l hl => ?_
    obtain ⟨d, rfl⟩ := args_sh hs
    rw [fp_sh] at hl
    cases hl
  · rintro σ' δ' H2 ⟨G2, e2, fr4, sl⟩ hd
    obtain ⟨w, g1, dx2, fs2, rfl, g2, g3, g4, g5, g6⟩ := sl.at_ 0 _ hd
    exact q fs2 dx2 G2 H2 fr4 g2 g3 g4 g5
  · intro v d' σ' δ' G' H' _ fr _ r' z
    exact z.elim
end
end AP
end
/-! AP28 -/
section
set_option Elab.async false
set_option linter.all false
set_option maxRecDepth 100000
set_option maxHeartbeats 4000000
namespace AP
open PySem PySem.Spec PyProof.Rows L2 AL AZ NdefX
section
variable {P : Program} {w : World} {K : PySem.W.Frag} {mg : Str → Option Value} {base : Heap}
theorem m_Lets (Z : Zd K mg) (hP : Pf P fileS) : MakP P w K mg base 6 "Lets" (He.ga K "Lets") (fun ds ns fds => ds = [] ∧ ns = [("word" : Str), "parts"] ∧ fds = [.str "lets", .tup []]) 1 := by
  obtain ⟨c, cc, fd, D⟩ := Z.sLets
  have b : Binds K fd P_Lets__init [] := by
    obtain ⟨oc, od, kV, doc, pm, an, ct, osl, rfl, lk⟩ := D.lk
    exact Binds.all fun us hl => match us, hl with | [_], _ => rfl
  refine ⟨_, fd, P_Lets__init, Z.mk_Lets, fnOkS_of (k := 5) Z D hP S_Lets__init rfl rfl (by decide) rfl rfl rfl rfl (by decide) (by decide) Z.z.cls_Lets Z.z.na_Lets_word Z.z.na_Lets_parts ?_, Z.z.g_Lets, b⟩
  rintro A outer s H E p ds fds ns ⟨rfl, rfl, rfl⟩
  exact ⟨⟨rfl, rfl, rfl, rfl, _, rfl⟩, .str "lets", [], by decide, (fun d h => nomatch h), ea_cons ed_str ea_nil, sds_nil rfl⟩
theorem m_Stands (Z : Zd K mg) (hP : Pf P fileS) : MakP P w K mg base 6 "Stands" (He.ga K "Stands") (fun ds ns fds => ds = [] ∧ ns = [("word" : Str), "parts"] ∧ fds = [.str "stands", .tup []]) 1 := by
  obtain ⟨c, cc, fd, D⟩ := Z.sStands
  have b : Binds K fd P_Stands__init [] := by
    obtain ⟨oc, od, kV, doc, pm, an, ct, osl, rfl, lk⟩ := D.lk
    exact Binds.all fun us hl => match us, hl with | [_], _ => rfl
  refine ⟨_, fd, P_Stands__init, Z.mk_Stands, fnOkS_of (k := 5) Z D hP S_Stands__init rfl rfl (by decide) rfl rfl rfl rfl (by decide) (by decide) Z.z.cls_Stands Z.z.na_Stands_word Z.z.na_Stands_parts ?_, Z.z.g_Stands, b⟩
  rintro A outer s H E p ds fds ns ⟨rfl, rfl, rfl⟩
  exact ⟨⟨rfl, rfl, rfl, rfl, _, rfl⟩, .str "stands", [], by decide, (fun d h => nomatch h), ea_cons ed_str ea_nil, sds_nil rfl⟩
end
end AP
end
/-! AP29 -/
section
set_option Elab.async false
set_option linter.all false
set_option maxRecDepth 100000
set_option maxHeartbeats 4000000
namespace AP
open PySem PySem.Spec PyProof.Rows L2 AL AZ NdefX
section
variable {P : Program} {w : World} {K : PySem.W.Frag} {mg : Str → Option Value} {base : Heap}
theorem fix_ints (l : List Nat) : (ntl l).map (fixD 1) = ntl l := by
  unfold ntl
  rw [List.map_map]
  rfl
theorem m_Copies (Z : Zd K mg) (hP : Pf P fileS) : MakP P w K mg base 6 "Copies" (He.ga K "Copies") (fun ds ns fds => ∃ l : List Nat, l.length ≤ 1000 ∧ ds = [.lst (ntl l)] ∧ ns = [("word" : Str), "parts", "numbers"] ∧ fds = [.str "copies", .tup [.tup (ntl l)], .tup (ntl l)]) 2 := by
  obtain ⟨c, cc, fd, D⟩ := Z.sCopies
  have b : Binds K fd P_Copies__init [] := by
    obtain ⟨oc, od, kV, doc, pm, an, ct, osl, rfl, lk⟩ := D.lk
    exact Binds.all fun us hl => match us, hl with | [_, _], _ => rfl
  refine ⟨_, fd, P_Copies__init, Z.mk_Copies, fnOkS_of (k := 5) Z D hP S_Copies__init rfl rfl (by decide) rfl rfl rfl rfl (by decide) (by decide) Z.z.cls_Copies Z.z.na_Copies_word Z.z.na_Copies_parts ?_, Z.z.g_Copies, b⟩
  rintro A outer s H E p ds fds ns ⟨l, hl, rfl, rfl, rfl⟩
  have e : [Dt.lst (ntl l)].map (fixD 2) = [.tup (ntl l)] := by
    show [Dt.tup ((ntl l).map (fixD 1))] = _
    rw [fix_ints]
  refine ⟨⟨rfl, rfl, rfl, rfl, _, rfl⟩, .str "copies", [.lst (ntl l)], by exact (show 1 ≤ 1000 by decide), (fun d h => ?_), ea_cons ed_str (ea_cons (ed_var 1) ea_nil), ?_⟩
  · rw [List.mem_singleton.mp h]
    refine .lst 1 _ (by rw [ntl_len]; exact hl) fun d h => ?_
    obtain ⟨n, _, rfl⟩ := ntl_mem h
    exact .int _ _
  · rw [e]
    exact sds_fld 0 (ed_at_int (i := 0) (ed_fldOb (d := .tup [.tup (ntl l)]) 0 Z.z.cls_Copies Z.z.na_Copies_parts rfl rfl) ed_int rfl) Z.z.cls_Copies Z.z.na_Copies_numbers (sds_nil rfl)
end
end AP
end
/-! AP30 -/
section
set_option Elab.async false
set_option linter.all false
set_option maxRecDepth 100000
set_option maxHeartbeats 4000000
namespace AP
open PySem PySem.Spec PyProof.Rows L2 AL AZ NdefX
section
variable {P : Program} {w : World} {K : PySem.W.Frag} {mg : Str → Option Value} {base : Heap}
/-- rows and edits come as tuples already -/
theorem m_Parts (Z : Zd K mg) (hP : Pf P fileS) : MakP P w K mg base 6 "Parts" (He.ga K "Parts") (fun ds ns fds => ∃ (rs es : List Dt) (st : Int), rs.length ≤ 1000 ∧ es.length ≤ 1000 ∧ (∀ d ∈ rs, Lv 1 d ∧ fixD 1 d = d) ∧ (∀ d ∈ es, Lv 1 d ∧ fixD 1 d = d) ∧ ds = [.tup rs, .int st, .tup es] ∧ ns = [("word" : Str), "parts", "row", "start", "edits"] ∧ fds = [.str "parts", .tup [.tup rs, .int st, .tup es], .tup rs, .int st, .tup es]) 4 := by
  obtain ⟨c, cc, fd, D⟩ := Z.sParts
  have b : Binds K fd P_Parts__init [] := by
    obtain ⟨oc, od, kV, doc, pm, an, ct, osl, rfl, lk⟩ := D.lk
    exact Binds.all fun us hl => match us, hl with | [_, _, _, _], _ => rfl
  refine ⟨_, fd, P_Parts__init, Z.mk_Parts, fnOkS_of (k := 5) Z D hP S_Parts__init rfl rfl (by decide) rfl rfl rfl rfl (by decide) (by decide) Z.z.cls_Parts Z.z.na_Parts_word Z.z.na_Parts_parts ?_, Z.z.g_Parts, b⟩
  rintro A outer s H E p ds fds ns ⟨rs, es, st, h1, h2, h3, h4, rfl, rfl, rfl⟩
  have m1 : ∀ {l : List Dt}, (∀ d ∈ l, Lv 1 d ∧ fixD 1 d = d) → l.map (fixD 1) = l := fun {l} h => by
    conv => rhs; rw [← List.map_id l]
    exact List.map_congr_left fun d hd => (h d hd).2
  have e : [Dt.tup rs, .int st, .tup es].map (fixD 2) = [.tup rs, .int st, .tup es] := by
    show [Dt.tup (rs.map (fixD 1)), .int st, .tup (es.map (fixD 1))] = _
    rw [m1 h3, m1 h4]
  refine ⟨⟨rfl, rfl, rfl, rfl, _, rfl⟩, .str "parts", [.tup rs, .int st, .tup es], by exact (show 3 ≤ 1000 by decide), (fun d h => ?_), ea_cons ed_str (ea_cons (ed_var 1) (ea_cons (ed_var 2) (ea_cons (ed_var 3) ea_nil))), ?_⟩
  · simp only [List.mem_cons, List.not_mem_nil, or_false] at h
    rcases h with rfl | rfl | rfl
    · exact .tup 1 _ h1 fun d hd => (h3 d hd).1
    · exact .int _ _
    · exact .tup 1 _ h2 fun d hd => (h4 d hd).1
  · rw [e]
    exact sds_unp3 0 (ed_fldOb (d := .tup [.tup rs, .int st, .tup es]) 0 Z.z.cls_Parts Z.z.na_Parts_parts rfl rfl) Z.z.cls_Parts Z.z.na_Parts_row Z.z.na_Parts_start Z.z.na_Parts_edits (sds_nil rfl)
end
end AP
end
/-! AP31 -/
section
set_option Elab.async false
set_option linter.all false
set_option maxRecDepth 100000
set_option maxHeartbeats 4000000
namespace AP
open PySem PySem.Spec PyProof.Rows L2 AL AZ
def lostD (i : Int) : Dt := .tup [.str "lost", .int i]
def withoutL (wide copies fewer : Nat) : List Int := ((List.range (fewer / 2)).map fun (p : Nat) => ((copies : Int) - 2 * p - 1) * wide - 1) ++ (if fewer % 2 = 1 then [((copies : Int) - fewer) * wide] else [])
section
variable {P : Program} {w : World} {K : PySem.W.Frag} {mg : Str → Option Value} {base : Heap}
theorem p_without (Z : Zc K mg) : FnP P w K mg base 1 "without" (fun ds d => ∃ (a : List Nat) (copies fewer : Nat), a.length ≤ 100 ∧ copies ≤ 100 ∧ fewer ≤ 100 ∧ ds = [ts a, .int (copies : Nat), .int (fewer : Nat)] ∧ d = .tup ((withoutL (a.length + 1) copies fewer).map lostD)) 3 [] :=
  Z.mk_without fun cdv A outer s H E ds d hr ⟨a, copies, fewer, h1, h2, h3, e1, e2⟩ => by
    subst e1 e2
    refine sds_par2 3 4 (es_sh (ed_is (ed_op (ed_cb (ea_cons (ed_var 0) ea_nil) (cld_lens (by omega)) Z.f_len) ed_int opd_add) (show _ = Dt.int ((a.length + 1 : Nat) : Int) from rfl))) (es_mk ea_nil) ?_ S_without.nd
    refine sds_cons (M := fun δ' => ∃ o, δ' = [some (.sh (ts a)), some (.sh (.int (copies : Nat))), some (.sh (.int (fewer : Nat))), some (.sh (.int ((a.length + 1 : Nat) : Int))), some (.mu (((List.range (fewer / 2)).map fun (p : Nat) => ((copies : Int) - 2 * p - 1) * (a.length + 1 : Nat) - 1).map lostD)), o]) (sd_for (ds := ntl (List.range (fewer / 2))) (vs := [5]) (δt := fun i δ' => δ'.set 5 (some (.sh ((ntl (List.range (fewer / 2))).getD i .non)))) (fun i δ' => ∃ o, δ' = [some (.sh (ts a)), some (.sh (.int (copies : Nat))), some (.sh (.int (fewer : Nat))), some (.sh (.int ((a.length + 1 : Nat) : Int))), some (.mu (((List.range i).map fun (p : Nat) => ((copies : Int) - 2 * p - 1) * (a.length + 1 : Nat) - 1).map lostD)), o]) (id_is (id_range1 (n := ((fewer / 2 : Nat) : Int)) (ea_cons (ed_is (ed_op (ed_var 2) ed_int (opd_fdiv ⟨by omega, by omega⟩)) (congrArg Dt.int (by rw [Int.fdiv_eq_ediv_of_nonneg _ (by omega)]; omega))) ea_nil) (by omega) Z.f_range) (by rw [Int.toNat_natCast]; exact range_nat _)) ⟨none, rfl⟩ ?_ ?_ ?_) ?_
    · rintro i d δ' hd ⟨o, rfl⟩
      rw [getD_of hd]
      exact gd_name 5 S_without.nd
    · rintro i d δ' hd ⟨o, rfl⟩
      rw [getD_of hd]
      obtain ⟨hi, rfl⟩ := nr_get hd
      refine sds_append 4 (ds := ((List.range i).map fun (p : Nat) => ((copies : Int) - 2 * p - 1) * (a.length + 1 : Nat) - 1).map lostD) (d := lostD (((copies : Int) - 2 * i - 1) * (a.length + 1 : Nat) - 1)) (ed_tup (ea_cons (ed_gs Z.c_LOST) (ea_cons (ed_op (ed_op (ed_op (ed_op (ed_var 1) (ed_op ed_int (ed_var 5) (opd_mul (.inl ⟨by omega, by omega⟩))) opd_sub) ed_int opd_sub) (ed_var 3) (opd_mul (.inl ⟨by omega, by omega⟩))) ed_int opd_sub) ea_nil))) (by rw [List.length_map, List.length_map, List.length_range]; omega) (sds_nil ⟨some (.sh (.int (i : Nat))), ?_⟩)
      rw [List.range_succ]
      simp
    · rintro δ' ⟨o, rfl⟩
      rw [ntl_len, List.length_range]
      exact ⟨o, rfl⟩
    · rintro δ' ⟨o, rfl⟩
      have hmod : ((fewer : Int).fmod 2 = 1) ↔ fewer % 2 = 1 := by
        rw [Int.fmod_eq_emod_of_nonneg _ (by omega)]
        omega
      refine sds_if (fun δ' => δ' = [some (.sh (ts a)), some (.sh (.int (copies : Nat))), some (.sh (.int (fewer : Nat))), some (.sh (.int ((a.length + 1 : Nat) : Int))), some (.mu ((withoutL (a.length + 1) copies fewer).map lostD)), o]) (k := decide (fewer % 2 = 1)) (et_cmp (ed_op (ed_var 2) ed_int (opd_mod (by decide))) ed_int (opd_b opd_eq (decide_eq_decide.mpr hmod))) (fun h => ?_) (fun h => ?_) (fun δ' h => by subst h; exact sds_frz 4 (sds_ret (ed_ct (ea_cons (ed_var 4) ea_nil) cld_tupL Z.f_tuple) rfl))
      · have h' := of_decide_eq_true h
        refine sds_append 4 (ds := ((List.range (fewer / 2)).map fun (p : Nat) => ((copies : Int) - 2 * p - 1) * (a.length + 1 : Nat) - 1).map lostD) (d := lostD (((copies : Int) - fewer) * (a.length + 1 : Nat))) (ed_tup (ea_cons (ed_gs Z.c_LOST) (ea_cons (ed_op (ed_op (ed_var 1) (ed_var 2) opd_sub) (ed_var 3) (opd_mul (.inl ⟨by omega, by omega⟩))) ea_nil))) (by rw [List.length_map, List.length_map, List.length_range]; omega) (sds_nil ?_)
        unfold withoutL
        rw [if_pos h', List.map_append]
        rfl
      · have h' := of_decide_eq_false h
        refine sds_nil ?_
        unfold withoutL
        rw [if_neg h', List.append_nil]
end
end AP
end
/-! AP32 -/
section
set_option Elab.async false
set_option linter.all false
set_option maxRecDepth 100000
set_option maxHeartbeats 4000000
namespace AP
open PySem PySem.Spec PyProof.Rows L2 AL AZ
section
variable {P : Program} {w : World} {K : PySem.W.Frag} {mg : Str → Option Value} {base : Heap}
theorem p_need_asked (Z : Zc K mg) : FnP P w K mg base 9 "need_asked" (fun ds d => ∃ (ws t : List (List Nat)) (n : Nat) (l : List Nat) (m c : Nat) (u : T3), Wds ws ∧ l ≠ [] ∧ l.length = t.length ∧ l.length ≤ 100 ∧ (∀ k ∈ l, 2 * m + 1 ≤ k ∧ k ≤ 12) ∧ 1 ≤ m ∧ m ≤ 3 ∧ bestB ws (tripL ws.length) = some (c, u) ∧ m < c ∧ ds = [machD K ws t n, .lst (ntl l), .int (m : Nat)] ∧ d = .tup (ntl l)) 3 [] :=
  Z.mk_need_asked fun cdv A outer s H E ds d hr ⟨ws, t, n, l, m, c, u, hW, hne, hlt, hl, hk, hm1, hm3, hB, hc, e1, e2⟩ => by
    subst e1 e2
    have hmin := minL_mem hne
    have hare : RAre [.lst (ntl l), .int 1, .int 12] (.bl true) := by
      rw [ntl_eq]
      refine .mk _ 1 12 (fun k h => ?_) (by simp; omega)
      obtain ⟨j, hj, rfl⟩ := List.mem_map.mp h
      have := hk j hj
      omega
    refine sds_drop (ed_call (p_need_machine Z) hr (ea_cons (ed_var 0) ea_nil) ⟨ws, t, n, rfl, rfl⟩) ?_
    refine sds_ifF (et_w (ew_or (k := false) (k' := false) (et_not (k := true) (et_val (ed_call (p_are_within Z) hr (ea_cons (ed_var 1) (ea_cons ed_int (ea_cons (ed_gi Z.c_MOST_COPIES_copies) ea_nil))) hare))) fun _ => ew_or1 (et_cmp (ed_cb (ea_cons (ed_var 1) ea_nil) cld_lenL Z.f_len) (ed_cb (ea_cons (ed_deeds Z (ed_var 0)) ea_nil) cld_lenT Z.f_len) (opd_b opd_ne (by simp [ntl, deedsD, hlt]))))) ?_
    refine sds_drop (ed_call (p_need_number Z) hr (ea_cons (ed_var 2) (ea_cons ed_str (ea_cons ed_int (ea_cons (ed_gi Z.c_MOST_EDITS_copies) ea_nil)))) (.mk _ _ _ _ (by omega) (by omega))) ?_
    refine sds_ifF (et_cmp (ed_cb (ea_cons (ed_var 1) ea_nil) (cld_minN hne) Z.f_min) (ed_op (ed_op ed_int (ed_var 2) (opd_mul (.inl ⟨by omega, by omega⟩))) ed_int opd_add) (opd_b opd_lt (decide_eq_false (by have := hk _ hmin; omega)))) ?_
    refine sds_set 3 (ed_is (ed_call (p_price Z) hr (ea_cons (ed_fld (ed_var (d := machD K ws t n) 0) Z.cls_Machine Z.na_Machine_book rfl) ea_nil) ⟨ws, hW, rfl, rfl⟩) (show _ = Dt.int (c : Nat) by unfold priceD; rw [hB])) ?_ S_need_asked.nd
    refine sds_ifF (et_w (ew_and (k := true) (k' := false) (et_cmp (ed_var (d := .int (c : Nat)) 3) ed_non opd_notN) fun _ => ew_and1 (et_cmp (ed_var 3) (ed_var 2) (opd_b opd_le (decide_eq_false (by omega)))))) ?_
    exact sds_ret (ed_ct (ea_cons (ed_var 1) ea_nil) cld_tupL Z.f_tuple) rfl
end
end AP
end
/-! AP33 -/
section
set_option Elab.async false
set_option linter.all false
set_option maxRecDepth 100000
set_option maxHeartbeats 4000000
namespace AP
open PySem PySem.Spec PyProof.Rows L2 AL AZ
def partsV (K : PySem.W.Frag) (rs : List Dt) (st : Int) (es : List Dt) : Dt := .ins (He.ga K "Parts") [("word" : Str), "parts", "row", "start", "edits"] [.str "parts", .tup [.tup rs, .int st, .tup es], .tup rs, .int st, .tup es]
/-- all ends are alike for so many copies less -/
def Alike (t : List (List Nat)) (n k c m : Nat) : Prop := ∀ j, c - 2 * m ≤ j → j < c → ∀ s, s < n → endM t (List.replicate j k) s = endM t (List.replicate c k) s
theorem fix_lost (i : Int) : Lv 1 (lostD i) ∧ fixD 1 (lostD i) = lostD i := ⟨.tup 0 _ (by show 2 ≤ 1000; decide) fun d h => by
  simp only [List.mem_cons, List.not_mem_nil, or_false] at h
  rcases h with rfl | rfl
  · exact .str _ _
  · exact .int _ _, rfl⟩
theorem without_len (a c f : Nat) : (withoutL a c f).length ≤ f := by
  unfold withoutL
  rw [List.length_append, List.length_map, List.length_range]
  split <;> simp <;> omega
section
variable {P : Program} {w : World} {K : PySem.W.Frag} {mg : Str → Option Value} {base : Heap}
theorem p_parted (Z : Zd K mg) (hP : Pf P fileS) : FnP P w K mg base 8 "parted" (fun ds d => ∃ (ws t : List (List Nat)) (n k c m : Nat), MOk t n ∧ k < t.length ∧ ws.length = t.length ∧ (∀ w ∈ ws, w.length ≤ 12) ∧ 1 ≤ m ∧ m ≤ 3 ∧ 2 * m + 1 ≤ c ∧ c ≤ 12 ∧ ds = [machD K ws t n, .int (k : Nat), .int (c : Nat), .int (m : Nat)] ∧
    ((Alike t n k c m ∧ d = .non) ∨ (endM t (List.replicate (c - 2 * m) k) 0 ≠ endM t (List.replicate c k) 0 ∧ d = partsV K [.int (k : Nat)] 0 ((withoutL ((ws.getD k []).length + 1) c (2 * m)).map lostD)))) 4 [] :=
  Z.z.mk_parted fun cdv A outer s H E ds d hr ⟨ws, t, n, k, c, m, hm, hk, hwt, hw12, m1, m3, hc, hc12, e1, hd⟩ => by
    subst e1
    have hn := hm.n2
    have hn1 := hm.n1
    have hin : ∀ j, ∀ i ∈ List.replicate j k, i < t.length := fun j i hi => by
      rw [List.eq_of_mem_replicate hi]
      exact hk
    have rp : ∀ j : Nat, 1 ≤ j → j ≤ 100 → OpD (cxOf CX0 P w K mg base N_parted "parted" (defScope s_parted) (He.fAd K ("parted", none)) cdv A outer s H E).nox (binaryOp .Mult) (.tup [.int (k : Int)]) (.int ((j : Nat) : Int)) (.tup (ntl (List.replicate j k))) := fun j h1 h2 => by
      rw [← rep_one]
      exact opd_repT h1 (by omega) (by simp) (by simp)
    refine sds_set 4 (ed_call (p_ends_of Z.z) hr (ea_cons (ed_var 0) (ea_cons (ed_op (ed_tup (ea_cons (ed_var 1) ea_nil)) (ed_var 2) (rp c (by omega) (by omega))) ea_nil)) ⟨ws, t, n, _, hm, hin c, rfl, rfl⟩) ?_ S_parted.nd
    have eq0 : ∀ (j q : Nat), q < n → (ntl (endsM t n (List.replicate j k)))[q]? = some (.int (endM t (List.replicate j k) q : Nat)) := fun j q hq => by
      refine ntl_get ?_
      unfold endsM
      rw [List.getElem?_map, List.getElem?_range hq]
      rfl
    have hlo : ((c : Int) - 2 * (m : Int)) = ((c - 2 * m : Nat) : Int) := by omega
    have outer_ : ∀ {tg : Expr} {δ : De} {o5 o6 : Option Sd}, δ = [some (.sh (machD K ws t n)), some (.sh (.int (k : Nat))), some (.sh (.int (c : Nat))), some (.sh (.int (m : Nat))), some (.sh (.tup (ntl (endsM t n (List.replicate c k))))), o5, o6] → True := fun _ => trivial
    have hcnt : ((c : Int) - ((c - 2 * m : Nat) : Int)).toNat = 2 * m := by omega
    rcases hd with ⟨hA, rfl⟩ | ⟨hB, rfl⟩
    · refine sds_cons (M := fun δ' => ∃ o5 o6, δ' = [some (.sh (machD K ws t n)), some (.sh (.int (k : Nat))), some (.sh (.int (c : Nat))), some (.sh (.int (m : Nat))), some (.sh (.tup (ntl (endsM t n (List.replicate c k))))), o5, o6])
        (sd_for (vs := [5]) (δt := fun i δ' => δ'.set 5 (some (.sh ((rangeD ((c - 2 * m : Nat) : Int) (2 * m)).getD i .non)))) (fun i δ' => ∃ o5 o6, δ' = [some (.sh (machD K ws t n)), some (.sh (.int (k : Nat))), some (.sh (.int (c : Nat))), some (.sh (.int (m : Nat))), some (.sh (.tup (ntl (endsM t n (List.replicate c k))))), o5, o6])
          (id_is (id_range2 (ea_cons (ed_is (ed_op (ed_var 2) (ed_op ed_int (ed_var 3) (opd_mul (.inl ⟨by omega, by omega⟩))) opd_sub) (congrArg Dt.int hlo)) (ea_cons (ed_var 2) ea_nil)) (by omega) Z.z.f_range) (by rw [hcnt])) ⟨none, none, rfl⟩ ?_ ?_ ?_) ?_
      · rintro i d δ' hd ⟨o5, o6, rfl⟩
        rw [getD_of hd]
        exact gd_name 5 S_parted.nd
      · rintro i d δ' hd ⟨o5, o6, rfl⟩
        rw [getD_of hd]
        have hil : i < 2 * m := by
          rw [← rangeD_len ((c - 2 * m : Nat) : Int) (2 * m)]
          exact (List.getElem?_eq_some_iff.mp hd).1
        rw [rangeD_get hil] at hd
        cases hd
        rw [show (((c - 2 * m : Nat) : Int) + (i : Int)) = ((c - 2 * m + i : Nat) : Int) by omega]
        refine sds_cons (M := fun δ' => ∃ o6, δ' = [some (.sh (machD K ws t n)), some (.sh (.int (k : Nat))), some (.sh (.int (c : Nat))), some (.sh (.int (m : Nat))), some (.sh (.tup (ntl (endsM t n (List.replicate c k))))), some (.sh (.int ((c - 2 * m + i : Nat) : Int))), o6])
          (sd_for (ds := ntl (List.range n)) (vs := [6]) (δt := fun i δ' => δ'.set 6 (some (.sh ((ntl (List.range n)).getD i .non)))) (fun _ δ' => ∃ o6, δ' = [some (.sh (machD K ws t n)), some (.sh (.int (k : Nat))), some (.sh (.int (c : Nat))), some (.sh (.int (m : Nat))), some (.sh (.tup (ntl (endsM t n (List.replicate c k))))), some (.sh (.int ((c - 2 * m + i : Nat) : Int))), o6])
            (id_is (id_range1 (ea_cons (ed_states Z.z (ed_var 0)) ea_nil) (by omega) Z.z.f_range) (by rw [Int.toNat_natCast]; exact range_nat _)) ⟨o6, rfl⟩ ?_ ?_ ?_) ?_
        · rintro q d δ' hd ⟨o6, rfl⟩
          rw [getD_of hd]
          exact gd_name 6 S_parted.nd
        · rintro q d δ' hd ⟨o6, rfl⟩
          rw [getD_of hd]
          obtain ⟨hq, rfl⟩ := nr_get hd
          refine sds_ifF (et_cmp (ed_call (p_end_of Z.z) hr (ea_cons (ed_var 0) (ea_cons (ed_op (ed_tup (ea_cons (ed_var 1) ea_nil)) (ed_var 5) (rp (c - 2 * m + i) (by omega) (by omega))) (ea_cons (ed_var 6) ea_nil))) ⟨ws, t, n, _, q, hm, hin _, hq, rfl, rfl⟩) (ed_at_int (ed_var 4) (ed_var 6) (eq0 c q hq)) (opd_b opd_ne ?_)) (sds_nil ⟨some (.sh (.int (q : Nat))), rfl⟩)
          rw [hA (c - 2 * m + i) (by omega) (by omega) q hq]
          simp
        · rintro δ' ⟨o6, rfl⟩
          exact ⟨o6, rfl⟩
        · rintro δ' ⟨o6, rfl⟩
          exact sds_nil ⟨_, o6, rfl⟩
      · rintro δ' ⟨o5, o6, rfl⟩
        exact ⟨o5, o6, rfl⟩
      · rintro δ' ⟨o5, o6, rfl⟩
        exact sds_ret ed_non rfl
    · refine sds_cons (M := fun _ => False)
        (sd_for (vs := [5]) (δt := fun i δ' => δ'.set 5 (some (.sh ((rangeD ((c - 2 * m : Nat) : Int) (2 * m)).getD i .non)))) (fun i δ' => i = 0 ∧ ∃ o5 o6, δ' = [some (.sh (machD K ws t n)), some (.sh (.int (k : Nat))), some (.sh (.int (c : Nat))), some (.sh (.int (m : Nat))), some (.sh (.tup (ntl (endsM t n (List.replicate c k))))), o5, o6])
          (id_is (id_range2 (ea_cons (ed_is (ed_op (ed_var 2) (ed_op ed_int (ed_var 3) (opd_mul (.inl ⟨by omega, by omega⟩))) opd_sub) (congrArg Dt.int hlo)) (ea_cons (ed_var 2) ea_nil)) (by omega) Z.z.f_range) (by rw [hcnt])) ⟨rfl, none, none, rfl⟩ ?_ ?_ ?_) (fun _ z => z.elim)
      · rintro i d δ' hd ⟨_, o5, o6, rfl⟩
        rw [getD_of hd]
        exact gd_name 5 S_parted.nd
      · rintro i d δ' hd ⟨rfl, o5, o6, rfl⟩
        rw [getD_of hd]
        rw [rangeD_get (by omega)] at hd
        cases hd
        rw [show (((c - 2 * m : Nat) : Int) + ((0 : Nat) : Int)) = ((c - 2 * m : Nat) : Int) by omega]
        refine sds_cons (M := fun _ => False)
          (sd_for (ds := ntl (List.range n)) (vs := [6]) (δt := fun i δ' => δ'.set 6 (some (.sh ((ntl (List.range n)).getD i .non)))) (fun q δ' => q = 0 ∧ ∃ o6, δ' = [some (.sh (machD K ws t n)), some (.sh (.int (k : Nat))), some (.sh (.int (c : Nat))), some (.sh (.int (m : Nat))), some (.sh (.tup (ntl (endsM t n (List.replicate c k))))), some (.sh (.int ((c - 2 * m : Nat) : Int))), o6])
            (id_is (id_range1 (ea_cons (ed_states Z.z (ed_var 0)) ea_nil) (by omega) Z.z.f_range) (by rw [Int.toNat_natCast]; exact range_nat _)) ⟨rfl, o6, rfl⟩ ?_ ?_ ?_) (fun _ z => z.elim)
        · rintro q d δ' hd ⟨_, o6, rfl⟩
          rw [getD_of hd]
          exact gd_name 6 S_parted.nd
        · rintro q d δ' hd ⟨rfl, o6, rfl⟩
          rw [getD_of hd]
          obtain ⟨hq, rfl⟩ := nr_get hd
          have hkw : k < ws.length := by omega
          have ew : (wordsD ws)[k]? = some (ts (ws.getD k [])) := by simp [wordsD, hkw, List.getD_eq_getElem?_getD]
          have hlw := word_len hw12 k
          refine sds_ifT (et_cmp (ed_call (p_end_of Z.z) hr (ea_cons (ed_var 0) (ea_cons (ed_op (ed_tup (ea_cons (ed_var 1) ea_nil)) (ed_var 5) (rp (c - 2 * m) (by omega) (by omega))) (ea_cons (ed_var 6) ea_nil))) ⟨ws, t, n, _, 0, hm, hin _, hq, rfl, rfl⟩) (ed_at_int (ed_var 4) (ed_var 6) (eq0 c 0 hq)) (opd_b opd_ne ?_)) ?_
          · rw [decide_eq_false (fun z => hB (by exact Int.ofNat.inj z))]
            rfl
          · refine sds_ret (ed_make (m_Parts Z hP) hr (ea_cons (ed_tup (ea_cons (ed_var 1) ea_nil)) (ea_cons (ed_var 6) (ea_cons (ed_call (p_without Z.z) hr (ea_cons (ed_at_int (ed_words Z.z (ed_book Z.z (ed_var 0))) (ed_var 1) ew) (ea_cons (ed_var 2) (ea_cons (ed_is (ed_op (ed_var 2) (ed_var 5) opd_sub) (congrArg Dt.int (show ((c : Int) - ((c - 2 * m : Nat) : Int)) = ((2 * m : Nat) : Int) by omega))) ea_nil))) ⟨ws.getD k [], c, 2 * m, by omega, by omega, by omega, rfl, rfl⟩) ea_nil))) ⟨_, _, _, ?_, ?_, ?_, ?_, rfl, rfl, rfl⟩) rfl
            · show 1 ≤ 1000
              decide
            · rw [List.length_map]
              have := without_len ((ws.getD k []).length + 1) c (2 * m)
              omega
            · intro d h
              rw [List.mem_singleton.mp h]
              exact ⟨.int _ _, rfl⟩
            · intro d h
              obtain ⟨i, _, rfl⟩ := List.mem_map.mp h
              exact fix_lost i
        · rintro δ' ⟨h, _⟩
          rw [ntl_len, List.length_range] at h
          omega
      · rintro δ' ⟨h, _⟩
        rw [rangeD_len] at h
        omega
end
end AP
end
/-! AP34 -/
section
set_option Elab.async false
set_option linter.all false
set_option maxRecDepth 100000
set_option maxHeartbeats 4000000
namespace AP
open PySem PySem.Spec PyProof.Rows L2 AL AZ
def copiesV (K : PySem.W.Frag) (l : List Nat) : Dt := .ins (He.ga K "Copies") [("word" : Str), "parts", "numbers"] [.str "copies", .tup [.tup (ntl l)], .tup (ntl l)]
def standsV (K : PySem.W.Frag) : Dt := .ins (He.ga K "Stands") [("word" : Str), "parts"] [.str "stands", .tup []]
def letsV (K : PySem.W.Frag) : Dt := .ins (He.ga K "Lets") [("word" : Str), "parts"] [.str "lets", .tup []]
/-- at how many times the deeds settle -/
structure Sets (t : List (List Nat)) (n : Nat) (ml : List Nat) : Prop where
  len : ml.length = t.length
  at_ : ∀ k, k < t.length → SetAt t n k (ml.getD k 0)
theorem map_getD (l : List Nat) (F : Nat → Dt) : (ntl (List.range l.length)).map (fun d => F (l.getD d.n 0)) = l.map F := by
  unfold ntl
  rw [List.map_map]
  apply List.ext_getElem?
  intro i
  rw [List.getElem?_map, List.getElem?_map]
  by_cases h : i < l.length
  · rw [List.getElem?_range h, List.getElem?_eq_getElem h]
    simp [Dt.n, List.getD_eq_getElem?_getD, h]
  · rw [List.getElem?_eq_none (by simpa using h), List.getElem?_eq_none (by simpa using h)]
    rfl
section
variable {P : Program} {w : World} {K : PySem.W.Frag} {mg : Str → Option Value} {base : Heap}
theorem p_copies_for (Z : Zd K mg) (hP : Pf P fileS) : FnP P w K mg base 8 "copies_for" (fun ds d => ∃ (ws t : List (List Nat)) (n : Nat) (ml : List Nat) (m : Nat), MOk t n ∧ Sets t n ml ∧ t.length ≤ 100 ∧ 1 ≤ m ∧ m ≤ 4 ∧ ds = [machD K ws t n, .int (m : Nat)] ∧ d = copiesV K (ml.map fun k => 2 * m + k)) 2 [] :=
  Z.z.mk_copies_for fun cdv A outer s H E ds d hr ⟨ws, t, n, ml, m, hm, hs, ht, m1, m4, e1, e2⟩ => by
    subst e1 e2
    refine sds_drop (ed_call (p_need_machine Z.z) hr (ea_cons (ed_var 0) ea_nil) ⟨ws, t, n, rfl, rfl⟩) ?_
    refine sds_drop (ed_call (p_need_number Z.z) hr (ea_cons (ed_var 1) (ea_cons ed_str (ea_cons ed_int (ea_cons ed_int ea_nil)))) (.mk _ _ _ _ (by omega) (by omega))) ?_
    have hlen : (deedsD t).length = t.length := by simp [deedsD]
    refine sds_lcM 2 3 (ds := ntl (List.range ml.length)) (fun d => .int (ml.getD d.n 0 : Nat)) (id_is (id_range1 (ea_cons (ed_cb (ea_cons (ed_deeds Z.z (ed_var 0)) ea_nil) cld_lenT Z.z.f_len) ea_nil) (by rw [hlen]; omega) Z.z.f_range) (by rw [Int.toNat_natCast, hlen, hs.len]; exact range_nat _)) (blkOk_by (by kernel_rfl)) S_copies_for.nd (fun s H C cl fp d hd => ?_) (by rw [ntl_len, List.length_range, hs.len]; omega) ?_
    · obtain ⟨k, hk, rfl⟩ := ntl_mem hd
      have hk := List.mem_range.mp hk
      rw [hs.len] at hk
      exact ed_call (p_settling Z.z) hr (ea_cons (ed_var 0) (ea_cons (ed_var 3) ea_nil)) ⟨ws, t, n, k, _, hm, hk, hs.at_ k hk, rfl, rfl⟩
    · rw [map_getD ml (fun k => .int (k : Nat))]
      refine sds_ifF (et_cmp ed_non (ed_is (ed_var 2) (show Dt.lst (ntl ml) = _ by rw [ntl_eq])) opd_inNon) ?_
      refine sds_ret (ed_make (m_Copies Z hP) hr (ea_cons (ed_is (ed_lcM 6 (fun d => .int ((2 * m + d.n : Nat) : Int)) (id_list (ed_var (d := .lst (ntl ml)) 2)) (blkOk_by (by kernel_rfl)) S_copies_for.nd (fun s H C cl fp d hd => ?_) (by rw [ntl_len, hs.len]; omega)) (show _ = Dt.lst (ntl (ml.map fun k => 2 * m + k)) from ?_)) ea_nil) ⟨ml.map fun k => 2 * m + k, by rw [List.length_map, hs.len]; omega, rfl, rfl, rfl⟩) rfl
      · obtain ⟨k, hk, rfl⟩ := ntl_mem hd
        exact ed_is (ed_op (ed_op ed_int (ed_var 1) (opd_mul (.inl ⟨by omega, by omega⟩))) (ed_var (d := .int (k : Nat)) 6) opd_add) (congrArg Dt.int (by show (2 : Int) * (m : Int) + (k : Int) = ((2 * m + k : Nat) : Int); omega))
      · unfold ntl
        rw [List.map_map, List.map_map]
        rfl
end
end AP
end
/-! AP35 -/
section
set_option Elab.async false
set_option linter.all false
set_option maxRecDepth 100000
set_option maxHeartbeats 4000000
namespace AP
open PySem PySem.Spec PyProof.Rows L2 AL AZ
/-- a machine and copies that may be asked -/
structure Ask (ws t : List (List Nat)) (n : Nat) (l : List Nat) (m : Nat) : Prop where
  mo : MOk t n
  wt : ws.length = t.length
  wd : Wds ws
  ne : l ≠ []
  lt : l.length = t.length
  lc : ∀ k ∈ l, 2 * m + 1 ≤ k ∧ k ≤ 12
  m1 : 1 ≤ m
  m3 : m ≤ 3
  pr : ∃ c u, bestB ws (tripL ws.length) = some (c, u) ∧ m < c
section
variable {P : Program} {w : World} {K : PySem.W.Frag} {mg : Str → Option Value} {base : Heap}
theorem p_judged_text (Z : Zd K mg) (hP : Pf P fileS) : FnP P w K mg base 10 "judged_text" (fun ds d => ∃ (ws t : List (List Nat)) (n : Nat) (l : List Nat) (m : Nat), Ask ws t n l m ∧ ds = [machD K ws t n, .lst (ntl l), .int (m : Nat)] ∧
    (((∀ k, k < l.length → Alike t n k (l.getD k 0) m) ∧ d = standsV K) ∨ (endM t (List.replicate (l.getD 0 0 - 2 * m) 0) 0 ≠ endM t (List.replicate (l.getD 0 0) 0) 0 ∧ d = partsV K [.int (0 : Nat)] 0 ((withoutL ((ws.getD 0 []).length + 1) (l.getD 0 0) (2 * m)).map lostD)))) 3 [] :=
  Z.z.mk_judged_text fun cdv A outer s H E ds d hr ⟨ws, t, n, l, m, ak, e1, hd⟩ => by
    subst e1
    have hl20 : l.length ≤ 20 := by rw [ak.lt, ← ak.wt]; exact ak.wd.n
    obtain ⟨c, u, hB, hmc⟩ := ak.pr
    refine sds_set 3 (ed_call (p_need_asked Z.z) hr (ea_cons (ed_var 0) (ea_cons (ed_var 1) (ea_cons (ed_var 2) ea_nil))) ⟨ws, t, n, l, m, c, u, ak.wd, ak.ne, ak.lt, by omega, ak.lc, ak.m1, ak.m3, hB, hmc, rfl, rfl⟩) ?_ S_judged_text.nd
    have hpos : 0 < l.length := List.length_pos_iff.mpr ak.ne
    have hgD : ∀ k, k < l.length → l[k]? = some (l.getD k 0) := fun k hk => by simp [List.getD_eq_getElem?_getD, hk]
    rcases hd with ⟨hA, rfl⟩ | ⟨hB, rfl⟩
    · refine sds_cons (M := fun δ' => ∃ o4 o5, δ' = [some (.sh (machD K ws t n)), some (.sh (.lst (ntl l))), some (.sh (.int (m : Nat))), some (.sh (.tup (ntl l))), o4, o5])
        (sd_for (ds := ntl (List.range l.length)) (vs := [4]) (δt := fun i δ' => δ'.set 4 (some (.sh ((ntl (List.range l.length)).getD i .non)))) (fun i δ' => ∃ o4 o5, δ' = [some (.sh (machD K ws t n)), some (.sh (.lst (ntl l))), some (.sh (.int (m : Nat))), some (.sh (.tup (ntl l))), o4, o5])
          (id_is (id_range1 (ea_cons (ed_cb (ea_cons (ed_var 3) ea_nil) cld_lenT Z.z.f_len) ea_nil) (by rw [ntl_len]; omega) Z.z.f_range) (by rw [Int.toNat_natCast, ntl_len]; exact range_nat _)) ⟨none, none, rfl⟩ ?_ ?_ ?_) ?_
      · rintro i d δ' hd ⟨o4, o5, rfl⟩
        rw [getD_of hd]
        exact gd_name 4 S_judged_text.nd
      · rintro i d δ' hd ⟨o4, o5, rfl⟩
        rw [getD_of hd]
        obtain ⟨hi, rfl⟩ := nr_get hd
        have hlc := ak.lc (l.getD i 0) (List.mem_of_getElem? (hgD i hi))
        refine sds_set 5 (ed_call (p_parted Z hP) hr (ea_cons (ed_var 0) (ea_cons (ed_var 4) (ea_cons (ed_at_int (ed_var 3) (ed_var 4) (ntl_get (hgD i hi))) (ea_cons (ed_var 2) ea_nil)))) ⟨ws, t, n, i, l.getD i 0, m, ak.mo, by have := ak.lt; omega, ak.wt, ak.wd.l, ak.m1, ak.m3, hlc.1, hlc.2, rfl, .inl ⟨hA i hi, rfl⟩⟩) ?_ S_judged_text.nd
        exact sds_ifF (et_cmp (ed_var 5) ed_non opd_notN) (sds_nil ⟨_, _, rfl⟩)
      · rintro δ' ⟨o4, o5, rfl⟩
        exact ⟨o4, o5, rfl⟩
      · rintro δ' ⟨o4, o5, rfl⟩
        exact sds_ret (ed_make0 (m_Stands Z hP) hr ⟨rfl, rfl, rfl⟩) rfl
    · refine sds_cons (M := fun _ => False)
        (sd_for (ds := ntl (List.range l.length)) (vs := [4]) (δt := fun i δ' => δ'.set 4 (some (.sh ((ntl (List.range l.length)).getD i .non)))) (fun i δ' => i = 0 ∧ ∃ o4 o5, δ' = [some (.sh (machD K ws t n)), some (.sh (.lst (ntl l))), some (.sh (.int (m : Nat))), some (.sh (.tup (ntl l))), o4, o5])
          (id_is (id_range1 (ea_cons (ed_cb (ea_cons (ed_var 3) ea_nil) cld_lenT Z.z.f_len) ea_nil) (by rw [ntl_len]; omega) Z.z.f_range) (by rw [Int.toNat_natCast, ntl_len]; exact range_nat _)) ⟨rfl, none, none, rfl⟩ ?_ ?_ ?_) (fun _ z => z.elim)
      · rintro i d δ' hd ⟨_, o4, o5, rfl⟩
        rw [getD_of hd]
        exact gd_name 4 S_judged_text.nd
      · rintro i d δ' hd ⟨rfl, o4, o5, rfl⟩
        rw [getD_of hd]
        obtain ⟨hi, rfl⟩ := nr_get hd
        have hlc := ak.lc (l.getD 0 0) (List.mem_of_getElem? (hgD 0 hi))
        refine sds_set 5 (ed_call (p_parted Z hP) hr (ea_cons (ed_var 0) (ea_cons (ed_var 4) (ea_cons (ed_at_int (ed_var 3) (ed_var 4) (ntl_get (hgD 0 hi))) (ea_cons (ed_var 2) ea_nil)))) ⟨ws, t, n, 0, l.getD 0 0, m, ak.mo, by have := ak.lt; omega, ak.wt, ak.wd.l, ak.m1, ak.m3, hlc.1, hlc.2, rfl, .inr ⟨hB, rfl⟩⟩) ?_ S_judged_text.nd
        exact sds_ifT (et_cmp (ed_var 5) ed_non opd_notN) (sds_ret (ed_var 5) rfl)
      · rintro δ' ⟨h, _⟩
        rw [ntl_len, List.length_range] at h
        omega
end
end AP
end
/-! AL35 -/
section
set_option Elab.async false
set_option linter.all false
set_option maxRecDepth 100000
set_option maxHeartbeats 4000000
namespace AL
open PySem L2
def tNm (K : PySem.W.Frag) (ta : TE) : TE := fun σ H Q => ta σ H fun x H1 => ∃ a C dx fs nm, x = .ref a ∧ H1 a = some (.ins C dx fs) ∧ InsF K C ∧ NmC K C nm ∧ Q (.str nm) H1
section
variable {X : Cx} {δ : De} {e : Expr} {p1 p2 : Pos} {ta : TE} {C : Addr} {ns ns2 : List Str} {ds ds2 : List Dt} {nm : Str}
theorem pe_clsname (he : PE X e ta) (hb1 : attributeBase e "__class__" X.env (eval e X.env) = eval e X.env) (hb2 : attributeBase (.Attribute e "__class__" p1) "__name__" X.env (eval (.Attribute e "__class__" p1) X.env) = eval (.Attribute e "__class__" p1) X.env) :
    PE X (.Attribute (.Attribute e "__class__" p1) "__name__" p2) (tNm X.K ta) := by
  refine ⟨fun pins s σ H Q I h => ?_⟩
  refine attr_of hb2 (attr_of hb1 (thn (he.run pins s σ H _ I h) fun u s1 ⟨x, H1, I1, rx, a, C, dx, fs, nm, ex, ea, c, n, q⟩ => ?_))
  subst ex
  obtain rfl : u = Value.ref a := rx
  obtain ⟨mA, O, _⟩ := ins_get I1.hok ea
  obtain ⟨od, J, _⟩ := O.look
  obtain ⟨m, F⟩ := I1.fr
  refine PySem.W.get_class F I1.ok.mod.kin J (c.cl.get _) c.cl.hd c.ha c.hn c.htk c.hm ?_
  exact clsname_attr (s := { s1 with toks := s1.toks + 1 }) I1.kIn n fun t u => ⟨.str nm, H1, I1.tok _, ⟨t, rfl⟩, q⟩
theorem ed_clsname (ha : ED X δ e (.ins C ns ds)) (c : InsF X.K C) (n : NmC X.K C nm) (hb1 : attributeBase e "__class__" X.env (eval e X.env) = eval e X.env := by rfl)
    (hb2 : attributeBase (.Attribute e "__class__" p1) "__name__" X.env (eval (.Attribute e "__class__" p1) X.env) = eval (.Attribute e "__class__" p1) X.env := by rfl) : ED X δ (.Attribute (.Attribute e "__class__" p1) "__name__" p2) (.str nm) :=
  PE.imp (pe_clsname ha hb1 hb2) fun σ H Q ⟨O, G, e, s, q⟩ => ⟨O, G, e, s, fun v G1 H1 f1 r1 => by
    cases r1 with
    | ins hx hn rx => exact ⟨_, _, _, _, nm, rfl, f1.s _ _ hx, c, n, q _ G1 H1 f1 (.str nm)⟩⟩
/-- a != b, by an own == that changes nothing -/
theorem opd_neP {k : Nat} {f : Addr} {fd : FuncData} {ps : List Str} {R : List Dt → Dt → Prop} {r : Bool} (F : FnOk X.prog X.w X.K X.mg X.base CX0 k f fd ps (spP X.K R 2)) (b : Binds X.K fd ps []) (c : InsF X.K C) (hne : PySem.W.findIn X.K (.ref C) "__ne__" = some (some (.builtin "object.__ne__")))
    (heq : PySem.W.findIn X.K (.ref C) "__eq__" = some (some (.ref f))) (hf : PySem.W.isFn X.K (.ref f) = true) (hr : Room (k + 1) X.A) (hR : R [.ins C ns ds, .ins C ns2 ds2] (.bl r)) : OpD X (compareOp .NotEq) (.ins C ns ds) (.ins C ns2 ds2) (.bl (!r)) := by
  intro pins s σ H x y v u Q I rx ry ⟨G, e, r1, r2, q⟩
  have r1' := r1
  have r2' := r2
  cases r1 with
  | @ins a1 _ dx1 fs1 _ _ hx hn rxs =>
  cases r2 with
  | @ins a2 _ dx2 fs2 _ _ hy hn2 rys =>
  cases rx
  cases ry
  obtain ⟨mA, J, _⟩ := ins_get I.hok (e _ _ hx)
  obtain ⟨mB, J', _⟩ := ins_get I.hok (e _ _ hy)
  obtain ⟨od, J, _⟩ := J.look
  obtain ⟨od', J', _⟩ := J'.look
  show wpAny (model X.prog X.w) X.A (richCompare .NotEq _ _) _ _ _
  have hun := hr.units
  refine ne_K (by omega) I.kIn J J'.type hne heq hf c.hm ?_
  have hsp : spP X.K R 2 [V.ref _, V.ref _] H (fun v H' => ∃ z, v = .bl z ∧ Q (.bl (!z)) H') E0 := ⟨G, [.ins C ns ds, .ins C ns2 ds2], .bl r, rfl, e, .cons r1' (.cons r2' .nil), hR, fun v G' H' fr rv => by
    cases rv
    exact ⟨r, rfl, q _ G' H' fr (.bl _)⟩⟩
  have e0 : Env0 X.prog X.w X.K X.mg X.base X.A.in1 X.stack s H := by
    have z := I.env0
    exact ⟨z.frames, z.mod, z.bs, z.bsz, z.funs, z.frf, z.hok, z.bare⟩
  have hl := F.len _ _ _ _ hsp
  have rr : Vals [V.ref a1, V.ref a2] [Value.ref a1, Value.ref a2] := .cons rfl (.cons rfl .nil)
  refine wpAny_call (codeAny_mono (F.run X.A.in1 X.stack s H ⟨[.ref a1, .ref a2], []⟩ [.ref a1, .ref a2] [.ref a1, .ref a2] _ E0 hr.in1 e0 (by
    have := b s [.ref a1, .ref a2] I.kIn (by simpa using hl)
    simpa using this) rr hsp) fun r s' hq => ?_)
  cases r with
  | error e => exact pass0 pins σ H s e s' I hq
  | ok fl =>
    cases fl with
    | ret w =>
      obtain ⟨z, H', I', rz, c, ez, qz⟩ := I.after hq
      subst ez
      cases rz
      exact ⟨c, rfl, .bl (!c), H', I', rfl, qz⟩
    | next => exact False.elim hq
    | brk => exact False.elim hq
    | cont => exact False.elim hq
end
end AL
end
/-! AP36 -/
section
set_option Elab.async false
set_option linter.all false
set_option maxRecDepth 100000
set_option maxHeartbeats 4000000
namespace AP
open PySem PySem.Spec PyProof.Rows L2 AL AZ
/-- what != of papers leans on -/
structure PapC (K : PySem.W.Frag) (C : Str) : Prop where
  ne : PySem.W.findIn K (.ref (He.ga K C)) "__ne__" = some (some (.builtin "object.__ne__"))
  eq : PySem.W.findIn K (.ref (He.ga K C)) "__eq__" = some (some (.ref (He.fAd K ("Paper", some "__eq__"))))
  fn : PySem.W.isFn K (.ref (He.fAd K ("Paper", some "__eq__"))) = true
  nm : NmC K (He.ga K C) C
structure Ze (K : PySem.W.Frag) (mg : Str → Option Value) : Prop where
  d : Zd K mg
  l : PapC K "Lets"
  c : PapC K "Copies"
  s : PapC K "Stands"
theorem eqv_self : ∀ l : List Nat, PyData.eqvAll (l.map fun (n : Nat) => PyData.int (n : Int)) (l.map fun (n : Nat) => PyData.int (n : Int)) = true := fun l => by
  rw [eqv_ntl l l]
  simp
section
variable {P : Program} {w : World} {K : PySem.W.Frag} {mg : Str → Option Value} {base : Heap}
/-- what two papers of one class must have to be told equal -/
structure SameP (K : PySem.W.Frag) (C : Str) (ns : List Str) (fds : List Dt) : Prop where
  ins : InsF K (He.ga K C)
  kit : PySem.W.kitOne K (.ref (He.ga K C)) (.ref (He.ga K "Paper")) = some true
  nm : NmC K (He.ga K C) C
  nw : NoAttr K (He.ga K C) "word"
  np : NoAttr K (He.ga K C) "parts"
  fw : ∃ z, fget ns fds "word" = some (.str z)
  fp : ∃ dps p, fget ns fds "parts" = some (.tup dps) ∧ (Dt.tup dps).py = some p ∧ SeqAt.shaped p = true ∧ PyData.eqv p p = true
def REqP (K : PySem.W.Frag) (ds : List Dt) (d : Dt) : Prop := ∃ C ns fds, SameP K C ns fds ∧ ds = [.ins (He.ga K C) ns fds, .ins (He.ga K C) ns fds] ∧ d = .bl true
theorem p_Paper_eq (Z : Zc K mg) : ∃ fd, FnOk P w K mg base CX0 1 (He.fAd K ("Paper", some "__eq__")) fd P_Paper__eq (spP K (REqP K) 2) ∧ Binds K fd P_Paper__eq [] := by
  obtain ⟨fd, F⟩ := Z.d_Paper__eq
  have b : Binds K fd P_Paper__eq [] := F.bindsN fun _ _ _ _ _ _ us hl => match us, hl with | [_, _], _ => rfl
  refine ⟨fd, fnOk_of (k := 0) F S_Paper__eq rfl ?_, b⟩
  rintro cdv A outer s H E ds d hr ⟨C, ns, fds, h, rfl, rfl⟩
  obtain ⟨z, hw⟩ := h.fw
  obtain ⟨dps, p, hp, py, sh, ev⟩ := h.fp
  refine sds_ifF (et_w (ew_or (k := false) (k' := false) (et_not (k := true) (et_val (ed_cb (ea_cons (ed_var 1) (ea_cons (ed_ga Z.g_Paper) ea_nil)) (cld_isC h.ins h.kit) Z.f_isinstance))) fun _ => ew_or1 (et_cmp (ed_clsname (ed_var (d := .ins (He.ga K C) ns fds) 0) h.ins h.nm) (ed_clsname (ed_var (d := .ins (He.ga K C) ns fds) 1) h.ins h.nm) (opd_b opd_neS (by simp))))) ?_
  refine sds_ret (ed_ct (ea_cons (ed_is (ed_and (k := true) (k' := true) (ed_cmp (ed_fld (ed_var (d := .ins (He.ga K C) ns fds) 0) h.ins.cl h.nw hw) (ed_fld (ed_var (d := .ins (He.ga K C) ns fds) 1) h.ins.cl h.nw hw) (opd_b opd_eqS (by simp))) fun _ => ed_one (ed_cmp (ed_fld (ed_var (d := .ins (He.ga K C) ns fds) 0) h.ins.cl h.np hp) (ed_fld (ed_var (d := .ins (He.ga K C) ns fds) 1) h.ins.cl h.np hp) (opd_b (opd_eqD hr.units py py sh sh) ev))) (show _ = Dt.bl true from rfl)) ea_nil) cld_boolB Z.f_bool) rfl
theorem same_lets (Z : Ze K mg) : SameP K "Lets" [("word" : Str), "parts"] [.str "lets", .tup []] :=
  ⟨Z.d.z.in_Lets, Z.d.z.kit_Lets_Paper, Z.l.nm, Z.d.z.na_Lets_word, Z.d.z.na_Lets_parts, ⟨_, rfl⟩, ⟨_, .tuple [], rfl, rfl, by unfold SeqAt.shaped; simp [PyData.canLay0, PyData.depth, PyData.canLayAll0, PyData.depthAll], by simp [PyData.eqv, PyData.eqvAll]⟩⟩
theorem same_stands (Z : Ze K mg) : SameP K "Stands" [("word" : Str), "parts"] [.str "stands", .tup []] :=
  ⟨Z.d.z.in_Stands, Z.d.z.kit_Stands_Paper, Z.s.nm, Z.d.z.na_Stands_word, Z.d.z.na_Stands_parts, ⟨_, rfl⟩, ⟨_, .tuple [], rfl, rfl, by unfold SeqAt.shaped; simp [PyData.canLay0, PyData.depth, PyData.canLayAll0, PyData.depthAll], by simp [PyData.eqv, PyData.eqvAll]⟩⟩
theorem same_copies (Z : Ze K mg) (l : List Nat) : SameP K "Copies" [("word" : Str), "parts", "numbers"] [.str "copies", .tup [.tup (ntl l)], .tup (ntl l)] :=
  ⟨Z.d.z.in_Copies, Z.d.z.kit_Copies_Paper, Z.c.nm, Z.d.z.na_Copies_word, Z.d.z.na_Copies_parts, ⟨_, rfl⟩, ⟨_, .tuple [.tuple (l.map fun (n : Nat) => PyData.int (n : Int))], rfl, by
      show (Dt.pys [Dt.tup (ntl l)]).map PyData.tuple = _
      have e : Dt.py (.tup (ntl l)) = some (.tuple (l.map fun (n : Nat) => PyData.int (n : Int))) := by
        show (Dt.pys (ntl l)).map PyData.tuple = _
        rw [pys_ntl]
        rfl
      show (match Dt.py (.tup (ntl l)), Dt.pys [] with
        | some p, some ps => some (p :: ps)
        | _, _ => none).map PyData.tuple = _
      rw [e]
      rfl, by unfold SeqAt.shaped; simp [PyData.canLay0, PyData.depth, PyData.canLayAll0, PyData.depthAll, lay_ntl, dep_ntl], by simp [PyData.eqv, PyData.eqvAll, eqv_self]⟩⟩
/-- v != v of a paper -/
theorem opd_neV {X : Cx} {C : Str} {ns : List Str} {fds : List Dt} {j : Nat} (Z : Zc X.K X.mg) (h : PapC X.K C) (s : SameP X.K C ns fds) (hr : Room j X.A) (hj : 2 ≤ j := by decide) : OpD X (compareOp .NotEq) (.ins (He.ga X.K C) ns fds) (.ins (He.ga X.K C) ns fds) (.bl false) := by
  obtain ⟨fd, F, b⟩ := p_Paper_eq (P := X.prog) (w := X.w) (base := X.base) Z
  exact opd_neP (r := true) F b s.ins h.ne h.eq h.fn (hr.mono hj) ⟨C, ns, fds, s, rfl, rfl⟩
end
end AP
end
/-! AL36 -/
section
set_option Elab.async false
set_option linter.all false
set_option maxRecDepth 100000
set_option maxHeartbeats 4000000
namespace AL
open PySem PySem.Spec PyProof.Rows L2
/-! ### {k: v for x in a for y in b}, its reading -/
/-- vs: the block's names; vs1: those of the second target -/
def tDc2 (wi : TI) (g : TG) (wi1 : TI) (g1 : TG) (tk tv : TE) (vs vs1 : List Nat) : TE := fun σ H Q => wi σ H fun J H1 => ∀ D, H1 D = none → ∃ W : Nat → Nat → Hp → Prop, (∃ m, W 0 m (upd H1 D (.dK []))) ∧ ∀ i m H, W i m H →
  (J.stop i H ∧ Q (.ref D) H) ∨ (J.go i H ∧ ∃ Nx : Hp → Prop, (∀ H', Nx H' → ∃ m', m' < m ∧ W (i + 1) m' H') ∧ ∀ x H', J.yld i H x H' → g x (wipe σ vs) H' fun σ2 H2 => wipe σ2 vs = wipe σ vs ∧
    wi1 σ2 H2 fun J1 H4 => ∃ W1 : Nat → Nat → Hp → Prop, (∃ m, W1 0 m H4) ∧ ∀ j k H, W1 j k H →
      (J1.stop j H ∧ Nx H) ∨ (J1.go j H ∧ ∃ Nx1 : Hp → Prop, (∀ H', Nx1 H' → ∃ k', k' < k ∧ W1 (j + 1) k' H') ∧ ∀ x H', J1.yld j H x H' → g1 x (wipe σ2 vs1) H' fun σ3 H5 => wipe σ3 vs1 = wipe σ2 vs1 ∧
        tk σ3 H5 fun y H6 => tv σ3 H6 fun z H7 => ∃ kvs q, y = kV q ∧ H7 D = some (.dK kvs) ∧ kvs.length < sizeLine ∧ Nx1 (upd H7 D (.dK (putK kvs q z)))))
section
variable {X : Cx}
theorem pe_dc2 {kx vx tg iter tg1 iter1 : Expr} {scope : Scope} {own : List (Str × Nat)} {vs1 : List Nat} {pos : Pos} {wi wi1 : TI} {g g1 : TG} {tk tv : TE} (hc : X.calm = true) (hN : X.N.Nodup) (hi : PI X tg iter wi) (ok : BlkOk X.N X.env.scope scope own) (hv : ∀ i ∈ vs1, i ∈ own.map (·.2))
    (hg : ∀ (s : Shared) (H : Hp) (C : Addr) (cl : List (Str × Addr)) (fp : List Addr), PG (X.blk s H scope (compEnvC scope cl C X.env) fp) tg g)
    (hi1 : ∀ (s : Shared) (H : Hp) (C : Addr) (cl : List (Str × Addr)) (fp : List Addr), PI (X.blk s H scope (compEnvC scope cl C X.env) fp) tg1 iter1 wi1)
    (hg1 : ∀ (s : Shared) (H : Hp) (C : Addr) (cl : List (Str × Addr)) (fp : List Addr), PG (X.blk s H scope (compEnvC scope cl C X.env) fp) tg1 g1)
    (hk : ∀ (s : Shared) (H : Hp) (C : Addr) (cl : List (Str × Addr)) (fp : List Addr), PE (X.blk s H scope (compEnvC scope cl C X.env) fp) kx tk)
    (he : ∀ (s : Shared) (H : Hp) (C : Addr) (cl : List (Str × Addr)) (fp : List Addr), PE (X.blk s H scope (compEnvC scope cl C X.env) fp) vx tv)
    (hs : ∀ x, foldedSetIterable iter X.env x = pure x) (hs1 : ∀ env x, foldedSetIterable iter1 env x = pure x) : PE X (dcx kx vx tg iter tg1 iter1 scope pos) (tDc2 wi g wi1 g1 tk tv (own.map (·.2)) vs1) := by
  refine ⟨fun pins s σ H Q I h => ?_⟩
  rw [show eval (dcx kx vx tg iter tg1 iter1 scope pos) X.env = _ from arm_eval_DictComp ..]
  have hfree : ∀ y ∈ scope.names, y.2 = .free → ∃ c, X.env.cells.lookup y.1 = some c := fun y hy e => (ok.free y hy e).elim (fun k => I.ok.has _ (.inl k)) fun k => I.ok.has _ (.inr k)
  refine wpAny_comprehension_free (use := none) rfl hs (closure_ok hfree) ok.kind (fun y hy e => by rw [ok.uniq y hy, e]) (thn (hi.run pins s σ H _ I h) fun xv s1 hx => thn hx fun itv s2 h2 => ?_)
  obtain ⟨it, fp, tn, J, H2, e, I2, T, st2, f2, q⟩ := h2
  subst e
  refine wpAny_newObj_type (newEnv_comp ?_)
  generalize hD : s2.heap.objs.size = D
  obtain ⟨W, ⟨m0, w0⟩, turn⟩ := q D (I2.hok.fresh (Nat.le_of_eq hD))
  generalize hs3 : ({ s2 with heap := s2.heap.push { cls := .type "dict", data := .dict #[] } } : Shared) = s3
  have h3 : s3.heap = s2.heap.push { cls := .type "dict", data := .dict #[] } := by rw [← hs3]
  have I3 : Inv X pins σ (upd H2 D (.dK [])) s3 := by
    rw [← hs3]
    refine I2.laid (t' := s2.toks) (fun b o e => Heap.get?_push_of_some _ e) (Nat.le_of_eq hD) ?_
    rw [← hD]
    exact dk_empty s2.heap I2.big
  have f3 : ∀ b ∈ fp, FpOk X pins (upd H2 D (.dK [])) b ∧ b < s3.heap.objs.size := fun b hb => by
    obtain ⟨o, e, _⟩ := T.obj _ _ st2 b hb
    have hlt : b < s2.heap.objs.size := Heap.lt_size e
    refine ⟨⟨?_, (f2 b hb).2⟩, by rw [h3, Heap.size_push]; exact Nat.lt_succ_of_lt hlt⟩
    rw [upd_ne (by rw [← hD]; exact Nat.ne_of_lt hlt)]
    exact (f2 b hb).1
  have st3 : tn 0 s3.heap := T.keep _ _ _ st2 fun b _ o e => by rw [h3]; exact Heap.get?_push_of_some _ e
  have I4 := block_start I3 ok hN f3
  generalize hcl : cellsFrom (s3.heap.objs.size + 1) scope.names (cloFrom X.env.cells scope.names []) = cl at I4
  have pg := hg s3 (upd H2 D (.dK [])) s3.heap.objs.size cl fp
  have pk := hk s3 (upd H2 D (.dK [])) s3.heap.objs.size cl fp
  have pe := he s3 (upd H2 D (.dK [])) s3.heap.objs.size cl fp
  have pi1 := hi1 s3 (upd H2 D (.dK [])) s3.heap.objs.size cl fp
  have pg1 := hg1 s3 (upd H2 D (.dK [])) s3.heap.objs.size cl fp
  show codeAny _ _ (.compStart (dcx kx vx tg iter tg1 iter1 scope pos) 0 (.ref it) (.ref D) (compEnvC scope cl s3.heap.objs.size X.env)) _ { s3 with heap := pushCells (s3.heap.push { cls := .type "dict", data := .dict #[] }) scope.names }
  have nfp : ∀ b ∈ fp, (upd H2 D (.dK [])) b = none := fun b hb => (f3 b hb).1.1
  generalize hce : compEnvC scope cl s3.heap.objs.size X.env = ce at I4 pg pk pe pi1 pg1 ⊢
  have cL : ce.locals = s3.heap.objs.size := by subst hce; rfl
  generalize hH3 : upd H2 D (.dK []) = H3 at I3 I4 pg pk pe pi1 pg1 w0 nfp f3
  generalize hs4 : ({ s3 with heap := pushCells (s3.heap.push { cls := .type "dict", data := .dict #[] }) scope.names } : Shared) = s4 at I4 ⊢
  have st4 : tn 0 s4.heap := T.keep _ _ _ st3 fun b _ o e => by rw [← hs4]; exact pushCells_keeps _ _ _ _ (Heap.get?_push_of_some _ e)
  have stat : ∀ {σ' : L2.St} {H' : Hp} {s' : Shared}, Inv (X.blk s3 H3 scope ce fp) [] σ' H' s' → (∀ b ∈ fp, H' b = none) → ∀ b ∈ fp, FpOk (X.blk s3 H3 scope ce fp) [] H' b := fun {σ' H' s'} I' hn b hb =>
    ⟨hn b hb, (I'.ok.exf b hb).1, I'.ok.exfs b hb, .inl hb, fun x c e => (I'.ok.exf b hb).2 x c e, fun p hp => absurd (show p ∈ ([] : List (Addr × Obj)) ++ [] from hp) (by simp)⟩
  -- what a pinned iterator keeps
  have held : ∀ {as : List Addr} {pp : List (Addr × Obj)} {sa sb : Shared} {σ' : L2.St} {H' : Hp}, Inv (X.blk s3 H3 scope ce fp) (pp ++ pinsAt as sa.heap) σ' H' sb → ∀ b ∈ as, ∀ o, sa.heap.get? b = some o → sb.heap.get? b = some o ∧ H' b = none := fun {as pp sa sb σ' H'} I' b hb o e =>
    let z := I'.pin (b, o) (List.mem_append_right _ (List.mem_append_right _ (mem_pinsAt hb e)))
    ⟨z.1, z.2.1⟩
  refine codeAny_compStart_dict ?loop (T.self X.A 0 _ _ _ st4 ?loop)
  refine dcx_outer (hs1 ce) (fun n s' => ∃ i H', Inv (X.blk s3 H3 scope ce fp) [] (wipe σ (own.map (·.2))) H' s' ∧ tn i s'.heap ∧ (∀ b ∈ fp, H' b = none) ∧ W i n H') ?_ m0 ⟨0, H3, I4, st4, nfp, w0⟩
  rintro n s5 ⟨i, H5, I5, st5, n5, w5⟩
  rcases turn i n H5 w5 with ⟨stop, qq⟩ | ⟨go, Nx, hNx, step⟩
  · refine thnF (T.done (X.blk s3 H3 scope ce fp) rfl rfl rfl hc i [] s5 _ H5 (fun _ _ => False) I5 (stat I5 n5) st5 stop) fun r s6 ⟨hr, I6⟩ => ?_
    subst hr
    have I7 : Inv X pins σ H5 s6 := I3.call' (ch := fp) I6.os I6.base I6.hok I6.bare fun b hb => ⟨(f3 b hb).1.2.2.2.1, (f3 b hb).1.2.1, (f3 b hb).1.2.2.2.2.1, (f3 b hb).1.2.2.2.2.2⟩
    have nC : H5 s3.heap.objs.size = none := by
      have z : H5 ce.locals = none := I6.free
      rwa [cL] at z
    obtain ⟨m, hn, _⟩ := I6.loc
    have hn : s6.heap.Ns ce.locals m := hn
    rw [cL] at hn
    obtain ⟨f0, f1, f2', f3', f4, f5⟩ := I3.fpOk (Nat.le_refl _) nC
    exact ⟨m, hn, fun h'' sb => ⟨.ref D, H5, I7.turned (t' := s6.toks) (fun b o hb e => (sb.2 b hb).trans e) f0 f1 f3' f4 f5, rfl, qq⟩⟩
  · refine thnF (T.item (X.blk s3 H3 scope ce fp) rfl rfl rfl hc i [] s5 _ H5 (fun _ _ => False) I5 (stat I5 n5) st5 go) fun r s6 ⟨u, hr, h6⟩ => ?_
    subst hr
    refine thnF h6 fun _ s7 ⟨x, H7, I7, r7, y7, st7, n7⟩ => ?_
    refine thnF (pg.run _ s7 _ H7 x u _ (I7.pinned (stat I7 n7) (T.obj _ _ st7)) r7 (step x H7 y7)) fun _ s8 ⟨σ8, H8, I8, hw8, q8⟩ => ?_
    have fin : ∀ {σ9 : L2.St} {s' : Shared} {H' : Hp}, Inv (X.blk s3 H3 scope ce fp) ([] ++ pinsAt fp s7.heap) σ9 H' s' → (wipe σ (own.map (·.2))).length = σ9.length → (∀ (j : Nat) v, (wipe σ (own.map (·.2)))[j]? = some (some v) → σ9[j]? = some (some v)) → Nx H' →
        ∃ m, m < n ∧ ∃ i H', Inv (X.blk s3 H3 scope ce fp) [] (wipe σ (own.map (·.2))) H' s' ∧ tn i s'.heap ∧ (∀ b ∈ fp, H' b = none) ∧ W i m H' := fun {σ9 s' H'} I' hl hk nx => by
      obtain ⟨m', hm, w'⟩ := hNx H' nx
      refine ⟨m', hm, i + 1, H', (I'.unpinned (pins := [])).weak hl hk, T.keep _ _ _ st7 fun b hb o e => (held I' b hb o e).1, fun b hb => ?_, w'⟩
      obtain ⟨o, e, _⟩ := T.obj _ _ st7 b hb
      exact (held I' b hb o e).2
    have hl8 : (wipe σ (own.map (·.2))).length = σ8.length := by rw [← hw8, wipe_length]
    have hk9 : ∀ (j : Nat) v, (wipe σ (own.map (·.2)))[j]? = some (some v) → (wipe σ8 vs1)[j]? = some (some v) := fun j v e => by
      rw [← hw8] at e
      obtain ⟨e1, e2⟩ := wipe_some e
      rw [wipe_out fun z => e2 (hv j z)]
      exact e1
    refine thnF (pi1.run _ s8 σ8 H8 _ I8 q8) fun xv s10 hx => thnF hx fun itv s11 h11 => ?_
    obtain ⟨it1, fp1, tn1, J1, H11, e1, I11, T1, st11, f11, W1, ⟨m1, w1⟩, turn1⟩ := h11
    subst e1
    refine dcx_start1 ?loop1 (T1.self X.A 0 _ _ _ st11 ?loop1)
    refine dcx_inner (fun k s' => ∃ j H', Inv (X.blk s3 H3 scope ce fp) ([] ++ pinsAt fp s7.heap) (wipe σ8 vs1) H' s' ∧ tn1 j s'.heap ∧ (∀ b ∈ fp1, H' b = none) ∧ W1 j k H') ?_ m1 ⟨0, H11, I11.weak (wipe_length _ _) (fun j v e => (wipe_some e).1), st11, fun b hb => (f11 b hb).1, w1⟩
    rintro k s12 ⟨j, H12, I12, st12, n12, w12⟩
    rcases turn1 j k H12 w12 with ⟨stop1, nx1⟩ | ⟨go1, Nx1, hNx1, step1⟩
    · refine thnF (T1.done (X.blk s3 H3 scope ce fp) rfl rfl rfl hc j _ s12 (wipe σ8 vs1) H12 (fun _ _ => False) I12 (fun b hb => ⟨n12 b hb, (f11 b hb).2⟩) st12 stop1) fun r s13 ⟨hr, I13⟩ => ?_
      subst hr
      exact fin I13 (hl8.trans (wipe_length σ8 vs1).symm) hk9 nx1
    · refine thnF (T1.item (X.blk s3 H3 scope ce fp) rfl rfl rfl hc j _ s12 (wipe σ8 vs1) H12 (fun _ _ => False) I12 (fun b hb => ⟨n12 b hb, (f11 b hb).2⟩) st12 go1) fun r s13 ⟨u1, hr, h13⟩ => ?_
      subst hr
      refine thnF h13 fun _ s14 ⟨x1, H14, I14, r14, y14, st14, n14⟩ => ?_
      refine thnF (pg1.run _ s14 (wipe σ8 vs1) H14 x1 u1 _ (I14.pinned (fun b hb => ⟨n14 b hb, (f11 b hb).2⟩) (T1.obj _ _ st14)) r14 (step1 x1 H14 y14)) fun _ s15 ⟨σ15, H15, I15, hw15, q15⟩ => ?_
      refine thnF (pk.run _ s15 σ15 H15 _ I15 q15) fun z1 s16 ⟨yk, H16, I16, r16, q16⟩ => ?_
      refine thnF (pe.run _ s16 σ15 H16 _ I16 q16) fun z2 s17 ⟨yv, H17, I17, r17, kvs, q, ek, hD17, hz17, nx⟩ => ?_
      subst ek
      refine d_dictSet (X := X.blk s3 H3 scope ce fp) I17 hD17 hz17 r16 r17 fun s18 I18 => ?_
      obtain ⟨m', hm, w'⟩ := hNx1 _ nx
      refine ⟨m', hm, j + 1, _, I18.unpinned.weak (by rw [← hw15, wipe_length]) (fun j v e => by rw [← hw15] at e; exact (wipe_some e).1), T1.keep _ _ _ st14 fun b hb o e => (held I18 b hb o e).1, fun b hb => ?_, w'⟩
      obtain ⟨o, e, _⟩ := T1.obj _ _ st14 b hb
      exact (held I18 b hb o e).2
end
end AL
end
/-! AL37 -/
section
set_option Elab.async false
set_option linter.all false
set_option maxRecDepth 100000
set_option maxHeartbeats 4000000
namespace AL
open PySem L2
/-! ### data: {k: v for x in a for y in b}, locked at once -/
def madeF (ps : List (Key × Dt)) : KDs := ps.foldl (fun b p => putD b p.1 p.2) []
theorem madeF_snoc (ps : List (Key × Dt)) (p : Key × Dt) : madeF (ps ++ [p]) = putD (madeF ps) p.1 p.2 := by
  unfold madeF
  rw [List.foldl_append]
  rfl
theorem madeF_len (ps : List (Key × Dt)) : (madeF ps).length ≤ ps.length := by
  have key : ∀ (ps : List (Key × Dt)) (b : KDs), (ps.foldl (fun b p => putD b p.1 p.2) b).length ≤ b.length + ps.length := fun ps => by
    induction ps with
    | nil => intro b; simp
    | cons p ps ih =>
      intro b
      have h1 := ih (putD b p.1 p.2)
      have h2 := putD_len b p.1 p.2
      simp only [List.foldl_cons, List.length_cons]
      omega
  have := key ps []
  simpa [madeF] using this
def flatP (ds : List Dt) (es : Dt → List Dt) (F : Dt → Dt → Key × Dt) : List (Key × Dt) := ds.flatMap fun d => (es d).map (F d)
theorem flatP_take {ds : List Dt} {es : Dt → List Dt} {F : Dt → Dt → Key × Dt} {i : Nat} {d : Dt} (h : ds[i]? = some d) : flatP (ds.take (i + 1)) es F = flatP (ds.take i) es F ++ (es d).map (F d) := by
  rw [List.take_succ, h]
  simp [flatP]
theorem flatP_le {es : Dt → List Dt} {F : Dt → Dt → Key × Dt} : ∀ (ds : List Dt) (i : Nat), (flatP (ds.take i) es F).length ≤ (flatP ds es F).length
  | [], i => by simp [flatP]
  | d :: ds, 0 => by simp [flatP]
  | d :: ds, i + 1 => by
    have q := flatP_le (es := es) (F := F) ds i
    simp only [flatP, List.take_succ_cons, List.flatMap_cons, List.length_append] at q ⊢
    omega
section
variable {X : Cx} {δ : De} {iter iter1 kx vx : Expr} {ds : List Dt} {scope : Scope} {x x1 : Str} {p p1 pos : Pos}
theorem ed_dc2L (j j1 : Nat) (es : Dt → List Dt) (F : Dt → Dt → Key × Dt) (hi : ID X δ (.Name x p) iter ds) (ok : BlkOk X.N X.env.scope scope [(x, j), (x1, j1)]) (hN : X.N.Nodup)
    (hi1 : ∀ (s : Shared) (H : Hp) (C : Addr) (cl : List (Str × Addr)) (fp : List Addr) (d : Dt), d ∈ ds → ID (X.bk scope s H C cl fp) (δ.set j (some (.sh d))) (.Name x1 p1) iter1 (es d))
    (hk : ∀ (s : Shared) (H : Hp) (C : Addr) (cl : List (Str × Addr)) (fp : List Addr) (d e : Dt), d ∈ ds → e ∈ es d → ED (X.bk scope s H C cl fp) ((δ.set j (some (.sh d))).set j1 (some (.sh e))) kx (keyD (F d e).1))
    (he : ∀ (s : Shared) (H : Hp) (C : Addr) (cl : List (Str × Addr)) (fp : List Addr) (d e : Dt), d ∈ ds → e ∈ es d → ED (X.bk scope s H C cl fp) ((δ.set j (some (.sh d))).set j1 (some (.sh e))) vx (F d e).2)
    (hz : (flatP ds es F).length ≤ 100000) (hj : j ≠ j1 := by decide) (hδ : δ[j]? = some none := by rfl) (hδ1 : δ[j1]? = some none := by rfl) (hi' : X.N[j]? = some x := by rfl) (hi1' : X.N[j1]? = some x1 := by rfl)
    (hx : ∀ (s : Shared) (H : Hp) (C : Addr) (cl : List (Str × Addr)) (fp : List Addr), L2.Loc (X.bk scope s H C cl fp).env.scope x := by first | exact fun _ _ _ _ _ => Or.inl rfl | exact fun _ _ _ _ _ => Or.inr rfl)
    (hf : ∀ (s : Shared) (H : Hp) (C : Addr) (cl : List (Str × Addr)) (fp : List Addr), (X.bk scope s H C cl fp).fn x = true ∨ (X.bk scope s H C cl fp).env.scope.names.lookup x = some .local := by first | exact fun _ _ _ _ _ => .inl rfl | exact fun _ _ _ _ _ => .inr rfl)
    (hx1 : ∀ (s : Shared) (H : Hp) (C : Addr) (cl : List (Str × Addr)) (fp : List Addr), L2.Loc (X.bk scope s H C cl fp).env.scope x1 := by first | exact fun _ _ _ _ _ => Or.inl rfl | exact fun _ _ _ _ _ => Or.inr rfl)
    (hf1 : ∀ (s : Shared) (H : Hp) (C : Addr) (cl : List (Str × Addr)) (fp : List Addr), (X.bk scope s H C cl fp).fn x1 = true ∨ (X.bk scope s H C cl fp).env.scope.names.lookup x1 = some .local := by first | exact fun _ _ _ _ _ => .inl rfl | exact fun _ _ _ _ _ => .inr rfl)
    (hc : X.calm = true := by rfl) (hs : ∀ y, foldedSetIterable iter X.env y = pure y := by intro _; rfl) (hs1 : ∀ env y, foldedSetIterable iter1 env y = pure y := by intro _ _; rfl) :
    ED X δ (.DictComp kx vx [⟨.Name x p, iter, [], 0⟩, ⟨.Name x1 p1, iter1, [], 0⟩] scope pos) (dlD (madeF (flatP ds es F))) := by
  have hv : ∀ i ∈ [j, j1], δ[i]? = some none := fun i h => by
    rcases List.mem_cons.mp h with e | h
    · exact e ▸ hδ
    · have e : i = j1 := by simpa using h
      exact e ▸ hδ1
  have hv1 : ∀ d : Dt, ∀ i ∈ [j1], (δ.set j (some (.sh d)))[i]? = some none := fun d i h => by
    have e : i = j1 := by simpa using h
    rw [e, List.getElem?_set_ne hj]
    exact hδ1
  refine PE.imp (PE.lockV (pe_dc2 (own := [(x, j), (x1, j1)]) (vs1 := [j1]) hc hN hi ok (by simp)
    (g := fun v σ H R => ∃ p : { p : Nat × Dt // ds[p.1]? = some p.2 }, gD X.K [j, j1] δ p.1.2 (δ.set j (some (.sh p.1.2))) v σ H R)
    (wi1 := fun σ H R => ∃ p : { d : Dt // d ∈ ds }, wiD X.K (δ.set j (some (.sh p.1))) (es p.1) σ H R)
    (g1 := fun v σ H R => ∃ p : Dt × Dt, gD X.K [j1] (δ.set j (some (.sh p.1))) p.2 ((δ.set j (some (.sh p.1))).set j1 (some (.sh p.2))) v σ H R)
    (tk := fun σ H Q => ∃ p : { p : Dt × Dt // p.1 ∈ ds ∧ p.2 ∈ es p.1 }, tD X.K ((δ.set j (some (.sh p.1.1))).set j1 (some (.sh p.1.2))) (keyD (F p.1.1 p.1.2).1) σ H Q)
    (tv := fun σ H Q => ∃ p : { p : Dt × Dt // p.1 ∈ ds ∧ p.2 ∈ es p.1 }, tD X.K ((δ.set j (some (.sh p.1.1))).set j1 (some (.sh p.1.2))) (F p.1.1 p.1.2).2 σ H Q)
    (fun s H C cl fp => PG.ex fun p => gd_name j hN (by simp) hi' (hx s H C cl fp) (hf s H C cl fp)) (fun s H C cl fp => PI.ex fun p => hi1 s H C cl fp p.1 p.2) (fun s H C cl fp => PG.ex fun p => gd_name j1 hN (by simp) hi1' (hx1 s H C cl fp) (hf1 s H C cl fp))
    (fun s H C cl fp => PE.ex fun p => hk s H C cl fp p.1.1 p.1.2 p.2.1 p.2.2) (fun s H C cl fp => PE.ex fun p => he s H C cl fp p.1.1 p.1.2 p.2.1 p.2.2) hs hs1)) fun σ H Q q => ?_
  obtain ⟨O, G, e, sl, k⟩ := q
  refine ⟨O, G, e, sl, fun J G1 H1 f1 wk D hD => ?_⟩
  have small : ∀ {acc : List (Key × V)} {Gi : Hp} {ps : List (Key × Dt)}, RpK X.K Gi acc (madeF ps) → ps.length ≤ 100000 → acc.length < sizeLine := fun {acc Gi ps} r h => by
    rw [r.len]
    exact Nat.lt_of_le_of_lt (Nat.le_trans (madeF_len ps) h) (by decide)
  refine ⟨fun i m H' => m = ds.length - i ∧ i ≤ ds.length ∧ ∃ Gi acc, Fr [] G1 H1 Gi H' ∧ Gi D = none ∧ H' D = some (.dK acc) ∧ RpK X.K Gi acc (madeF (flatP (ds.take i) es F)), ⟨_, rfl, Nat.zero_le _, G1, [], Fr.fresh f1.s hD, f1.s.free hD, upd_same, .nil⟩, ?_⟩
  rintro i m H' ⟨rfl, hi2, Gi, acc, fr, gD', hH, ra⟩
  obtain ⟨w1, w2, w3⟩ := wk Gi H' fr.g fr.s
  by_cases hlt : i < ds.length
  · refine .inr ⟨w1 i hlt, fun H'' => ∃ Gi acc, Fr [] G1 H1 Gi H'' ∧ Gi D = none ∧ H'' D = some (.dK acc) ∧ RpK X.K Gi acc (madeF (flatP (ds.take (i + 1)) es F)), fun H'' p => ⟨ds.length - (i + 1), by omega, rfl, hlt, p⟩, fun v H2 y => ?_⟩
    obtain ⟨d, G3, hd, f3, rx⟩ := w3 i v H2 hlt y
    have hm : d ∈ ds := List.mem_of_getElem? hd
    have fr3 := fr.trans f3
    have g3 : G3 D = none := f3.n _ (ne_none hH) gD'
    refine ⟨⟨(i, d), hd⟩, O, G3, f3.s, ((sl.mono f1).mono fr3).wipe hv, rx, fun σ2 s2 w' => ⟨w'.trans (wipe_wipe σ _), ⟨d, hm⟩, O, G3, f3.s, s2, fun J1 G4 H4 f4 wk1 => ?_⟩⟩
    have g4 : G4 D = none := f4.n _ (ne_none (f3.same _ _ hH)) g3
    have tot : (flatP (ds.take i) es F).length + (es d).length ≤ 100000 := by
      have q := flatP_le (es := es) (F := F) ds (i + 1)
      rw [flatP_take hd, List.length_append, List.length_map] at q
      omega
    refine ⟨fun l m H'' => m = (es d).length - l ∧ l ≤ (es d).length ∧ ∃ Gi acc, Fr [] G1 H1 Gi H'' ∧ Same G4 Gi ∧ Gi D = none ∧ H'' D = some (.dK acc) ∧ RpK X.K Gi acc (madeF (flatP (ds.take i) es F ++ ((es d).take l).map (F d))), ⟨_, rfl, Nat.zero_le _, G4, acc, fr3.trans f4, Same.refl _, g4, f4.same _ _ (f3.same _ _ hH), ?_⟩, ?_⟩
    · simp only [List.take_zero, List.map_nil, List.append_nil]
      exact ra.mono (f3.g.trans f4.g)
    rintro l m H5 ⟨rfl, hl2, G5, acc5, fr5, e5, g5, hH5, ra5⟩
    obtain ⟨v1, v2, v3⟩ := wk1 G5 H5 e5 fr5.s
    by_cases hlt1 : l < (es d).length
    · refine .inr ⟨v1 l hlt1, fun H'' => ∃ Gi acc, Fr [] G1 H1 Gi H'' ∧ Same G4 Gi ∧ Gi D = none ∧ H'' D = some (.dK acc) ∧ RpK X.K Gi acc (madeF (flatP (ds.take i) es F ++ ((es d).take (l + 1)).map (F d))), fun H'' p => ⟨(es d).length - (l + 1), by omega, rfl, hlt1, p⟩, fun v6 H6 y6 => ?_⟩
      obtain ⟨e6, G6, he6, f6, r6⟩ := v3 l v6 H6 hlt1 y6
      have hm6 : e6 ∈ es d := List.mem_of_getElem? he6
      refine ⟨(d, e6), O, G6, f6.s, (((sl.mono f1).mono (fr5.trans f6)).back1 (w'.trans (wipe_wipe σ _)) hv s2 hδ (f4.g.trans (e5.trans f6.g))).wipe (hv1 d), r6, fun σ3 s7 w7 => ⟨w7.trans (wipe_wipe σ2 _), ⟨(d, e6), hm, hm6⟩, O, G6, f6.s, s7, fun v8 G8 H8 f8 r8 => ⟨⟨(d, e6), hm, hm6⟩, O, G8, f8.s, s7.mono f8, fun v9 G9 H9 f9 r9 => ?_⟩⟩⟩
      have f89 := f8.trans f9
      refine ⟨acc5, (F d e6).1, r8.key, f89.same _ _ (f6.same _ _ hH5), small ra5 (by rw [List.length_append, List.length_map, List.length_take]; omega), G9, putK acc5 (F d e6).1 v9, ((fr5.trans f6).trans f89).write (.inl hD) ?_, (e5.trans f6.g).trans f89.g, ?_, upd_same, ?_⟩
      · exact f89.n _ (ne_none (f6.same _ _ hH5)) (f6.n _ (ne_none hH5) g5)
      · exact f89.n _ (ne_none (f6.same _ _ hH5)) (f6.n _ (ne_none hH5) g5)
      · rw [List.take_succ, he6]
        simp only [Option.toList_some, List.map_append, List.map_cons, List.map_nil]
        rw [← List.append_assoc, madeF_snoc]
        exact (ra5.mono (f6.g.trans f89.g)).put r9
    · have e1 : l = (es d).length := by omega
      subst e1
      refine .inl ⟨v2, G5, acc5, fr5, g5, hH5, ?_⟩
      rw [flatP_take hd]
      rw [List.take_length] at ra5
      exact ra5
  · have e1 : i = ds.length := by omega
    subst e1
    refine .inl ⟨w2, D, acc, rfl, hH, fun o => ?_⟩
    have fz := (fr.write (o := .frz o (.dK acc)) (.inl hD) gD').freeze hD upd_same gD'
    rw [List.take_length] at ra
    refine k _ _ _ (f1.trans fz) (RpK.toL upd_same (ra.mono fun c o q => ?_))
    rw [upd_ne (ne_of_none q gD')]
    exact q
end
section
variable {X : Cx} {δ : De} {e : Expr} {es : List Expr} {ds ds2 : List Dt} {p : Pos}
/-- *e in a display -/
theorem ea_star (h : ED X δ e (.lst ds)) (hr : EA X δ es ds2) (hs : starEach (.Starred e p :: es) X.env = (true, eval e X.env) :: starEach es X.env := by rfl) : EA X δ (.Starred e p :: es) (ds ++ ds2) :=
  PA.imp (StX.pa_star h hr hs) fun σ H Q ⟨O, G, e, s, q⟩ => ⟨O, G, e, s, fun v G1 H1 f1 r1 => by
    cases r1 with
    | lst hx rx => exact ⟨_, _, rfl, .inr (.of (f1.s _ _ hx)), O, G1, f1.s, s.mono f1, fun vs G2 H2 f2 r2 => q _ G2 H2 (f1.trans f2) ((rx.mono f2.g).append r2)⟩⟩
theorem opd_notinS {x : Str} {xs : List Str} : OpD X (compareOp .NotIn) (.str x) (.lst (xs.map .str)) (.bl (!decide (x ∈ xs))) := AL.OpR.imp op_notIn_seq fun a b H Q ⟨G, e, rx, ry, k⟩ => by
  cases rx
  cases ry with
  | lst hy ry =>
  obtain rfl := ry.of_strs
  refine ⟨_, _, rfl, .inl (.of (e _ _ hy)), rfl, flat_strs xs, k _ G H (Fr.refl e) ?_⟩
  show Rp _ _ (.bl (!inV _ _)) _
  rw [inV_strs]
  exact .bl _
/-- an object that is being made is read for a while: what comes does not hang on it -/
theorem ed_frzOb (i : Nat) {q C : Addr} {ns : List Str} {xs : List Str} (he : ED X (δ.set i (some (.sh (.ins C ns ds)))) e (.lst (xs.map .str))) (h : δ[i]? = some (some (.ob q C ns ds)) := by rfl) : ED X δ e (.lst (xs.map .str)) :=
  PE.imp he fun σ H Q ⟨O, G, e, sl, k⟩ => by
    obtain ⟨w, g1, dx, fs, rfl, g2, g3, g4, g5, g6⟩ := sl.at_ i _ h
    have gg : Same G (upd G q (.ins C dx fs)) := fun b o z => by rw [upd_ne (ne_of_none z g5)]; exact z
    have sm : Same (upd G q (.ins C dx fs)) H := fun b o z => by
      by_cases hb : b = q
      · subst hb; rw [upd_same] at z; rw [g2]; exact z
      · rw [upd_ne hb] at z; exact e _ _ z
    refine ⟨O, _, sm, ?_, fun v G1 H1 f1 r1 => ?_⟩
    · rw [← set_self g1]
      refine sl.put i (s := .sh (.ins C ns ds)) (.ins upd_same g3 (g4.mono gg)) gg (fun k s' w hk hq hw l' hl' => ⟨fun o z => z, ?_⟩) fun k s' w _ _ _ l' _ => by rw [fp_sh]; exact fun z => nomatch z
      have hne : l' ≠ q := fun z => by
        subst z
        exact sl.ne k i s' _ w _ hk hq h hw g1 l' hl' (List.mem_cons_self ..)
      rw [upd_ne hne]
      exact (sl.keep hq hw l' hl').2
    · have hq1 : G1 q = some (.ins C dx fs) := f1.g _ _ upd_same
      have ne : ∀ {b : Addr} {o : HO}, G b = some o → b ≠ q := fun {b o} z => ne_of_none z g5
      cases r1 with
      | lst hx rx =>
        rename_i a ys
        have ha : a ≠ q := fun z => by
          subst z
          rw [hq1] at hx
          cases hx
        obtain rfl := rx.of_strs
        refine k _ (fun b => if b = q then none else G1 b) H1 ⟨fun b o z => ?_, fun b o z => ?_, f1.h, fun b hb z => ?_, f1.t⟩ (.lst (by rw [if_neg ha]; exact hx) .strs)
        · show (if b = q then none else G1 b) = some o
          rw [if_neg (ne z)]
          exact f1.g _ _ (gg _ _ z)
        · have z : (if b = q then none else G1 b) = some o := z
          by_cases hb : b = q
          · rw [if_pos hb] at z; cases z
          · rw [if_neg hb] at z; exact f1.s _ _ z
        · show (if b = q then none else G1 b) = none
          by_cases hbq : b = q
          · rw [if_pos hbq]
          · rw [if_neg hbq]
            exact f1.n b hb (by rw [upd_ne hbq]; exact z)
end
end AL
end
/-! AP37 -/
section
set_option Elab.async false
set_option linter.all false
set_option maxRecDepth 100000
set_option maxHeartbeats 4000000
namespace AP
open PySem PySem.Spec PyProof.Rows L2 AL AZ
/-! ### the walk is made -/
def strOf : Dt → Str
  | .str x => x
  | _ => ⟨#[]⟩
def lettersS : List Str := letters.map fun c => mk [c]
theorem lettersS_eq : signsD ("abcdefghijklmnopqrstuvwxyz" : Str) = lettersS.map Dt.str := by
  unfold signsD lettersS
  rw [lets_eq, List.map_map]
  rfl
def someS (kds : KDs) (b : Str) : List Str := lettersS.filter fun x => (valD kds (.inr (b ++ x))).isSome
def triesS (kds : KDs) (b : Str) : List Str := (" " : Str) :: (someS kds b ++ ((lettersS.filter fun x => !decide (x ∈ someS kds b)).take 1 ++ []))
theorem str_filter (xs : List Str) (b : Str → Bool) : ((xs.map Dt.str).filter fun d => b (strOf d)).map (fun d => d) = (xs.filter b).map Dt.str := by
  rw [List.map_id', List.filter_map]
  rfl
theorem someS_len (kds : KDs) (b : Str) : (someS kds b).length ≤ 26 := List.length_filter_le _ _
section
variable {P : Program} {w : World} {K : PySem.W.Frag} {mg : Str → Option Value} {base : Heap}
theorem p_tries (Z : Zc K mg) : MetP P w K mg base 1 (He.ga K "Walk") "tries_at" (fun ds d => ∃ (ns : List Str) (fds : List Dt) (kds : KDs) (b : Str), fget ns fds "begins" = some (dlD kds) ∧ b.length ≤ 100 ∧ ds = [.ins (He.ga K "Walk") ns fds, .str b] ∧ d = .lst ((triesS kds b).map .str)) 2 :=
  Z.mk_Walk_tries_at fun cdv A outer s H E ds d hr ⟨ns, fds, kds, b, hf, hb, e1, e2⟩ => by
    subst e1 e2
    refine sds_set 2 (ed_lcMIf 3 (ds := lettersS.map .str) (fun d => (valD kds (.inr (b ++ strOf d))).isSome) (fun d => d) (id_is (id_str (ed_gs Z.c_LETTERS)) lettersS_eq) (blkOk_by (by kernel_rfl)) S_Walk_tries_at.nd (fun s H C cl fp d hd => ?_) (fun s H C cl fp d hd hb => ed_var 3) (by rw [List.length_map]; decide)) ?_ S_Walk_tries_at.nd
    · obtain ⟨x, hx, rfl⟩ := List.mem_map.mp hd
      obtain ⟨c, _, rfl⟩ := List.mem_map.mp hx
      exact et_dinL (k := .inr (b ++ mk [c])) hr.units (ed_op (ed_var 1) (ed_var 3) (opd_addS (by rw [mk_len]; exact sl_le (by show b.length + 1 ≤ 200000; omega)))) (ed_fld (ed_var (d := .ins (He.ga K "Walk") ns fds) 0) Z.cls_Walk Z.na_Walk_begins hf)
    · rw [str_filter lettersS fun x => (valD kds (.inr (b ++ x))).isSome]
      have h26 := someS_len kds b
      have hl26 : lettersS.length = 26 := by decide
      refine sds_ret (ed_is (ed_lst (ea_cons (ed_gs Z.c_BLANK) (ea_star (ed_var (d := .lst ((someS kds b).map .str)) 2) (ea_star (ed_slL (ed_lcMIf 3 (ds := lettersS.map .str) (fun d => !decide (strOf d ∈ someS kds b)) (fun d => d) (id_is (id_str (ed_gs Z.c_LETTERS)) lettersS_eq) (blkOk_by (by kernel_rfl)) S_Walk_tries_at.nd (fun s H C cl fp d hd => ?_) (fun s H C cl fp d hd hb => ed_var 3) (by rw [List.length_map]; decide)) eo_none (eo_some (i := ((1 : Nat) : Int)) ed_int)) ea_nil))) ?_) ?_) rfl
      · obtain ⟨x, hx, rfl⟩ := List.mem_map.mp hd
        exact et_cmp (ed_var 3) (ed_var (d := .lst ((someS kds b).map .str)) 2) opd_notinS
      · rw [cutG_to]
        simp only [List.length_cons, List.length_append, List.length_map, List.length_take, List.length_nil]
        omega
      · rw [cutG_to, str_filter lettersS fun x => !decide (x ∈ someS kds b)]
        unfold triesS
        simp
def numK (ws : List (List Nat)) : KDs := madeD (fun i => .inr (mk (ws.getD i []))) (fun i => .int (i : Nat)) ws.length
def begP (ws : List (List Nat)) : List (Key × Dt) := flatP (wordsD ws) (fun d => rangeD 0 ((strOf d).length + 1)) fun d e => (.inr (mk ((strOf d).cps.toList.take e.n)), .bl true)
def begK (ws : List (List Nat)) : KDs := madeF (begP ws)
def bOf : Key → Str
  | .inr x => x
  | _ => ⟨#[]⟩
def kAt (ws : List (List Nat)) (i : Nat) : Key := ((begK ws).map (·.1)).getD i (.inl 0)
def triK (ws : List (List Nat)) : KDs := madeD (kAt ws) (fun i => .lst ((triesS (begK ws) (bOf (kAt ws i))).map .str)) (begK ws).length
theorem putD_keys (b : KDs) (j : Key) (d : Dt) : ∀ k ∈ (putD b j d).map (·.1), k = j ∨ k ∈ b.map (·.1) := fun k hk => by
  unfold putD at hk
  split at hk
  · obtain ⟨p, hp, rfl⟩ := List.mem_map.mp hk
    obtain ⟨q, hq, rfl⟩ := List.mem_map.mp hp
    right
    refine List.mem_map.mpr ⟨q, hq, ?_⟩
    split <;> rfl
  · rw [List.map_append, List.mem_append] at hk
    rcases hk with hk | hk
    · exact .inr hk
    · exact .inl (by simpa using hk)
theorem madeF_keys : ∀ (ps : List (Key × Dt)) (b : KDs), ∀ k ∈ (ps.foldl (fun b p => putD b p.1 p.2) b).map (·.1), k ∈ b.map (·.1) ∨ ∃ p ∈ ps, p.1 = k
  | [], b, k, hk => .inl hk
  | p :: ps, b, k, hk => by
    rcases madeF_keys ps (putD b p.1 p.2) k hk with h | ⟨q, hq, e⟩
    · rcases putD_keys b p.1 p.2 k h with h | h
      · exact .inr ⟨p, List.mem_cons_self .., h.symm⟩
      · exact .inl h
    · exact .inr ⟨q, List.mem_cons_of_mem _ hq, e⟩
theorem begK_key {ws : List (List Nat)} (hw : ∀ w ∈ ws, w.length ≤ 12) {k : Key} (hk : k ∈ (begK ws).map (·.1)) : ∃ b : Str, k = .inr b ∧ b.length ≤ 12 := by
  rcases madeF_keys (begP ws) [] k hk with h | ⟨p, hp, rfl⟩
  · cases h
  · unfold begP flatP at hp
    obtain ⟨d, hd, hp⟩ := List.mem_flatMap.mp hp
    obtain ⟨e, he, rfl⟩ := List.mem_map.mp hp
    obtain ⟨w, hw1, rfl⟩ := List.mem_map.mp hd
    refine ⟨_, rfl, ?_⟩
    rw [mk_len, List.length_take]
    have := hw w hw1
    show min _ ((mk w).cps.toList.length) ≤ 12
    have e : (mk w).cps.toList.length = w.length := by simp [mk]
    omega
theorem begP_len {ws : List (List Nat)} (hw : ∀ w ∈ ws, w.length ≤ 12) (h : ws.length ≤ 40) : (begP ws).length ≤ 100000 := by
  unfold begP flatP
  have := fm_len (f := fun d => (rangeD 0 ((strOf d).length + 1)).map fun e => ((.inr (mk ((strOf d).cps.toList.take e.n)), .bl true) : Key × Dt)) (b := 13) (l := wordsD ws) fun d hd => by
    obtain ⟨w, hw1, rfl⟩ := List.mem_map.mp hd
    rw [List.length_map, rangeD_len]
    have := hw w hw1
    show (mk w).length + 1 ≤ 13
    rw [mk_len]
    omega
  have hl : (wordsD ws).length = ws.length := by simp [wordsD]
  rw [hl] at this
  exact Nat.le_trans this (by omega)
end
end AP
end
/-! AP38 -/
section
set_option Elab.async false
set_option linter.all false
set_option maxRecDepth 100000
set_option maxHeartbeats 4000000
namespace AP
open PySem PySem.Spec PyProof.Rows L2 AL AZ
section
variable {P : Program} {w : World} {K : PySem.W.Frag} {mg : Str → Option Value} {base : Heap}
abbrev nsW : List Str := ["machine", "many", "numbers", "begins", "tried"]
def walkV (K : PySem.W.Frag) (ws t : List (List Nat)) (n m : Nat) : Dt := .ins (He.ga K "Walk") nsW [machD K ws t n, .int (m : Nat), dkD (numK ws), dlD (begK ws), dkD (triK ws)]
theorem m_Walk (Z : Zc K mg) : MakP P w K mg base 2 "Walk" (He.ga K "Walk") (fun ds ns fds => ∃ ws t n m, BOk ws ∧ ds = [machD K ws t n, .int (m : Nat)] ∧ ns = nsW ∧ fds = [machD K ws t n, .int (m : Nat), dkD (numK ws), dlD (begK ws), dkD (triK ws)]) 3 := by
  obtain ⟨fd, F⟩ := Z.d_Walk__init
  have b : Binds K fd P_Walk__init [] := F.bindsN fun _ _ _ _ _ _ us hl => match us, hl with | [_, _, _], _ => rfl
  refine ⟨_, fd, P_Walk__init, Z.mk_Walk, fnOkI_of (k := 1) F S_Walk__init rfl (by decide) ?_, Z.g_Walk, b⟩
  rintro cdv A outer s H E q ds fds ns hr ⟨ws, t, n, m, ok, rfl, rfl, rfl⟩
  have h40 := ok.n2
  refine sds_fld 0 (ed_var (d := machD K ws t n) 1) Z.cls_Walk Z.na_Walk_machine ?_
  refine sds_fld 0 (ed_var (d := .int (m : Nat)) 2) Z.cls_Walk Z.na_Walk_many ?_
  refine sds_set 3 (ed_words Z (ed_book Z (ed_var (d := machD K ws t n) 1))) ?_ S_Walk__init.nd
  have hwl : (enumD (wordsD ws)).length = ws.length := by rw [enumD_len]; simp [wordsD]
  show SDs _ [q] [some (.ob q (He.ga K "Walk") [("machine" : Str), "many"] [machD K ws t n, .int (m : Nat)]), some (.sh (machD K ws t n)), some (.sh (.int (m : Nat))), some (.sh (.tup (wordsD ws))), none, none, none, none] _ _
  refine sds_fld 0 (d := dkD (numK ws)) (ed_is (ed_dc (own := [("number", 4), ("word", 5)]) (δi := fun i => [some (.ob q (He.ga K "Walk") [("machine" : Str), "many"] [machD K ws t n, .int (m : Nat)]), some (.sh (machD K ws t n)), some (.sh (.int (m : Nat))), some (.sh (.tup (wordsD ws))), some (.sh (.int (i : Nat))), some (.sh (ts (ws.getD i []))), none, none]) (kf := fun i => .inr (mk (ws.getD i []))) (f := fun i => .int (i : Nat)) (id_enumT (ea_cons (ed_var 3) ea_nil) Z.f_enumerate) (blkOk_by (by kernel_rfl)) S_Walk__init.nd (by omega) (two_none rfl rfl) (fun s H C cl fp i d hd => ?_) (fun s H C cl fp i hi => ed_var 5) (fun s H C cl fp i hi => ed_var 4)) (by rw [hwl]; rfl)) Z.cls_Walk Z.na_Walk_numbers ?_
  · have hil : i < ws.length := by
      rw [← hwl]
      exact (List.getElem?_eq_some_iff.mp hd).1
    have e : ws.getD i [] = ws[i] := by simp [List.getD_eq_getElem?_getD, hil]
    have hx := enumD_get (ds := wordsD ws) (i := i) (d := ts ws[i]) (by simp [wordsD, hil])
    rw [hx] at hd
    cases hd
    rw [e]
    exact gd_tup (gds_cons (gd_name 4 S_Walk__init.nd) (gds_cons (gd_name 5 S_Walk__init.nd) gds_nil))
  show SDs _ [q] [some (.ob q (He.ga K "Walk") [("machine" : Str), "many", "numbers"] [machD K ws t n, .int (m : Nat), dkD (numK ws)]), some (.sh (machD K ws t n)), some (.sh (.int (m : Nat))), some (.sh (.tup (wordsD ws))), none, none, none, none] _ _
  refine sds_fld 0 (d := dlD (begK ws)) (ed_dc2L 5 6 (fun d => rangeD 0 ((strOf d).length + 1)) (fun d e => (.inr (mk ((strOf d).cps.toList.take e.n)), .bl true)) (id_tup (ed_var 3)) (blkOk_by (by kernel_rfl)) S_Walk__init.nd (fun s H C cl fp d hd => ?_) (fun s H C cl fp d e hd he => ?_) (fun s H C cl fp d e hd he => ed_bl) (begP_len ok.le h40)) Z.cls_Walk Z.na_Walk_begins ?_
  · obtain ⟨w, hw, rfl⟩ := List.mem_map.mp hd
    have hlw := ok.le w hw
    refine id_is (id_range1 (n := ((w.length + 1 : Nat) : Int)) (ea_cons (ed_is (ed_op (ed_cb (ea_cons (ed_var (d := ts w) 5) ea_nil) (cld_lens (by omega)) Z.f_len) ed_int opd_add) (congrArg Dt.int (by omega))) ea_nil) (by omega) Z.f_range) ?_
    show rangeD 0 (((w.length + 1 : Nat) : Int)).toNat = rangeD 0 ((mk w).length + 1)
    rw [mk_len, Int.toNat_natCast]
  · obtain ⟨w, hw, rfl⟩ := List.mem_map.mp hd
    have hlw := ok.le w hw
    obtain ⟨k, hk, rfl⟩ := List.mem_map.mp he
    have hk := List.mem_range.mp hk
    have e0 : (0 : Int) + (k : Int) = ((k : Nat) : Int) := by omega
    rw [e0]
    refine ed_is (ed_to (l := w) (n := k) (ed_var 5) (ed_var 6) (by omega)) ?_
    show Dt.str (mk (w.take k)) = Dt.str (mk ((mk w).cps.toList.take ((k : Nat) : Int).toNat))
    rw [Int.toNat_natCast]
  show SDs _ [q] [some (.ob q (He.ga K "Walk") [("machine" : Str), "many", "numbers", "begins"] [machD K ws t n, .int (m : Nat), dkD (numK ws), dlD (begK ws)]), some (.sh (machD K ws t n)), some (.sh (.int (m : Nat))), some (.sh (.tup (wordsD ws))), none, none, none, none] _ _
  have hkl : (((begK ws).map (·.1)).map keyD).length = (begK ws).length := by simp
  have hk1 : (begK ws).length ≤ 100000 := Nat.le_trans (madeF_len _) (begP_len ok.le h40)
  refine sds_fld 0 (d := dkD (triK ws)) (ed_is (ed_dc (own := [("begin", 7)]) (δi := fun i => [some (.ob q (He.ga K "Walk") [("machine" : Str), "many", "numbers", "begins"] [machD K ws t n, .int (m : Nat), dkD (numK ws), dlD (begK ws)]), some (.sh (machD K ws t n)), some (.sh (.int (m : Nat))), some (.sh (.tup (wordsD ws))), none, none, none, some (.sh (keyD (kAt ws i)))]) (kf := kAt ws) (f := fun i => .lst ((triesS (begK ws) (bOf (kAt ws i))).map .str)) (id_keys (ed_fldOb (d := dlD (begK ws)) 0 Z.cls_Walk Z.na_Walk_begins rfl rfl)) (blkOk_by (by kernel_rfl)) S_Walk__init.nd (by rw [hkl]; exact hk1) (fun i h => by
      have e : i = 7 := by simpa using h
      subst e
      rfl) (fun s H C cl fp i d hd => ?_) (fun s H C cl fp i hi => ed_var 7) (fun s H C cl fp i hi => ?_)) (by rw [hkl]; rfl)) Z.cls_Walk Z.na_Walk_tried (sds_nil rfl)
  · rw [List.getElem?_map] at hd
    obtain ⟨k, hk, rfl⟩ := Option.map_eq_some_iff.mp hd
    have e : kAt ws i = k := by
      unfold kAt
      rw [List.getD_eq_getElem?_getD, hk]
      rfl
    rw [e]
    exact gd_name 7 S_Walk__init.nd
  · rw [hkl] at hi
    have hm : kAt ws i ∈ (begK ws).map (·.1) := by
      unfold kAt
      rw [List.getD_eq_getElem?_getD, List.getElem?_eq_getElem (by simpa using hi)]
      exact List.getElem_mem _
    obtain ⟨bb, hb, hbl⟩ := begK_key ok.le hm
    rw [hb]
    exact ed_frzOb 0 (ed_meth (p_tries Z) hr (ed_var (d := .ins (He.ga K "Walk") [("machine" : Str), "many", "numbers", "begins"] [machD K ws t n, .int (m : Nat), dkD (numK ws), dlD (begK ws)]) 0) (ea_cons (ed_var 7) ea_nil) ⟨_, _, begK ws, bb, rfl, by omega, rfl, rfl⟩)
end
end AP
end
/-! AL38 -/
section
set_option Elab.async false
set_option linter.all false
set_option maxRecDepth 100000
set_option maxHeartbeats 4000000
namespace AL
open PySem PySem.Spec PyProof.Rows L2
/-! ### an empty dict whose keys would be tuples -/
theorem dt_of_dk {P : Program} {w : World} {H H' : Hp} {h : Heap} {a : Addr} (x : ObjOk P w H h a (.dK [])) : ObjOk P w H' h a (.dT []) := by
  obtain ⟨z, hd, vs, rel, dd⟩ := x
  have e : vs = [] := by
    cases rel with
    | nil => rfl
  subst e
  obtain ⟨o, es, ep, ho, hx, hdt, he, hp, hnd⟩ := dd
  have e0 : es.toList = [] := by
    generalize es.toList = l at hp
    cases hp
    rfl
  exact ⟨Nat.zero_le _, hd, [], .nil, o, es, ep, ho, hx, hdt, by rw [e0]; rfl, List.nodup_nil⟩
theorem _root_.L2.PE.emptyT {X : Cx} {e : Expr} {t : TE} (h : PE X e t) : PE X e (fun σ H Q => t σ H fun x H1 => ∃ d, x = .ref d ∧ H1 d = some (.dK []) ∧ Q x (upd H1 d (.dT []))) :=
  ⟨fun pins s σ H Q I hw => thn (h.run pins s σ H _ I hw) fun u s1 ⟨x, H1, I1, r, d, ex, hd, q⟩ => by
    have k := I1.hok d _ hd
    obtain ⟨_, _, _, _, o, _, _, e, _⟩ := id (dt_of_dk (H' := H1) k)
    exact ⟨x, _, I1.write (x := d) (e := d) (t' := s1.toks) (h' := s1.heap) (o := .dT []) (by rw [hd]; exact True.intro) (.inl rfl) (fun b v _ q => q) ⟨o, e⟩ (dt_of_dk k), r, q⟩⟩
section
variable {X : Cx} {δ : De} {e o kx vx tg iter : Expr} {scope : Scope} {own : List (Str × Nat)} {pos : Pos} {i j : Nat}
/-- {k: v for x in nothing}, to be asked for tuples -/
theorem ed_dcE (hi : ID X δ tg iter []) (ok : BlkOk X.N X.env.scope scope own) (hN : X.N.Nodup) (hc : X.calm = true := by rfl) (hs : ∀ x, foldedSetIterable iter X.env x = pure x := by intro _; rfl) : ED X δ (.DictComp kx vx [⟨tg, iter, [], 0⟩] scope pos) .te := by
  refine PE.imp (PE.emptyT (pe_dc hc hN hi ok (g := fun _ _ _ _ => False) (tt := tYes) (tk := fun _ _ _ => False) (tv := fun _ _ _ => False)
    (fun s H C cl fp => ⟨fun _ _ _ _ _ _ _ _ _ z => z.elim⟩) (fun s H C cl fp => pts_nil) (fun s H C cl fp => ⟨fun _ _ _ _ _ _ z => z.elim⟩) (fun s H C cl fp => ⟨fun _ _ _ _ _ _ z => z.elim⟩) hs)) fun σ H Q q => ?_
  obtain ⟨O, G, e, sl, k⟩ := q
  refine ⟨O, G, e, sl, fun J G1 H1 f1 wk D hD => ?_⟩
  refine ⟨fun i m H' => i = 0 ∧ H' = upd H1 D (.dK []), ⟨0, rfl, rfl⟩, ?_⟩
  rintro i m H' ⟨rfl, rfl⟩
  have fr : Fr [] G1 H1 G1 (upd H1 D (.dK [])) := Fr.fresh f1.s hD
  obtain ⟨w1, w2, w3⟩ := wk G1 _ (Same.refl _) fr.s
  refine .inl ⟨w2, D, rfl, upd_same, ?_⟩
  have gD' : G1 D = none := f1.s.free hD
  have fz := (fr.write (o := .dT []) (.inl hD) gD').freeze hD upd_same gD'
  exact k _ _ _ (f1.trans fz) (.te upd_same)
/-- (a, b) in nothing -/
theorem et_inE (hu : X.A.units + 64 < cLine) (hk : ED X δ e (pkD i j)) (ho : ED X δ o .te) (hm : behindInMarks .In o = false := by first | exact nomark _ | rfl) : ET X δ (.Compare e [.In] [o] pos) false :=
  PT.imp (pt_cmp (pc_din (by omega) hk ho) hm) fun σ H Q ⟨O, G, e, s, q⟩ => ⟨O, G, e, s, fun v G1 H1 f1 r1 => ⟨O, G1, f1.s, s.mono f1, fun w G2 H2 f2 r2 => by
    cases r2 with
    | te h =>
    obtain ⟨b0, rfl, hb⟩ := r1.pk
    exact ⟨_, _, rfl, DGet.t (kvs := []) (f2.s _ _ h) (f2.s _ _ (f2.g _ _ hb)), _, rfl, q G2 H2 (f1.trans f2)⟩⟩⟩
theorem ed_inE (hu : X.A.units + 64 < cLine) (hk : ED X δ e (pkD i j)) (ho : ED X δ o .te) (hm : behindInMarks .In o = false := by first | exact nomark _ | rfl) : ED X δ (.Compare e [.In] [o] pos) (.bl false) :=
  PE.imp (pe_cmp (pc_din (by omega) hk ho) hm) fun σ H Q ⟨O, G, e, s, q⟩ => ⟨O, G, e, s, fun v G1 H1 f1 r1 => ⟨O, G1, f1.s, s.mono f1, fun w G2 H2 f2 r2 => by
    cases r2 with
    | te h =>
    obtain ⟨b0, rfl, hb⟩ := r1.pk
    exact ⟨_, _, rfl, DGet.t (kvs := []) (f2.s _ _ h) (f2.s _ _ (f2.g _ _ hb)), q _ G2 H2 (f1.trans f2) (.bl _)⟩⟩⟩
/-- y = {k: v for x in a}, y held by no other -/
theorem ps_setDc {i : Nat} {y : Str} {py spos : Pos} {wi : TI} {g : TG} {tk tv : TE} (hc : X.calm = true) (hN : X.N.Nodup) (hy : X.N[i]? = some y) (hyl : X.env.scope.names.lookup y = some .local) (hsw : swapsWith (.DictComp kx vx [⟨tg, iter, [], 0⟩] scope pos) (some (.Name y py)) spos.line X.env = pure true)
    (hi : PI X tg iter wi) (ok : BlkOk X.N X.env.scope scope own) (hg : ∀ (s : Shared) (H : Hp) (C : Addr) (cl : List (Str × Addr)) (fp : List Addr), PG (X.blk s H scope (compEnvC scope cl C X.env) fp) tg g)
    (hk : ∀ (s : Shared) (H : Hp) (C : Addr) (cl : List (Str × Addr)) (fp : List Addr), PE (X.blk s H scope (compEnvC scope cl C X.env) fp) kx tk) (he : ∀ (s : Shared) (H : Hp) (C : Addr) (cl : List (Str × Addr)) (fp : List Addr), PE (X.blk s H scope (compEnvC scope cl C X.env) fp) vx tv) (hs : ∀ x, foldedSetIterable iter X.env x = pure x) :
    PS X (.Assign [.Name y py] (.DictComp kx vx [⟨tg, iter, [], 0⟩] scope pos) spos) (tAsg (tDc wi g tYes tk tv (own.map (·.2))) (gName i)) := by
  refine ⟨fun pins s σ H D I h => ?_⟩
  rw [exec_Assign_Name_used _ _ _ _ hsw]
  refine wpAny_bind (wpAny_standAt (wpAny_bind ?_))
  show _root_.PySem.wpAny _ X.A (do let _ ← comprehension (.DictComp kx vx [⟨tg, iter, [], 0⟩] scope pos) scope X.env (firstIterPos [⟨tg, iter, [], 0⟩] pos) newDict false (eval iter X.env) (some (assign (.Name y py) X.env))) _ _ s
  have h : tDc wi g tYes tk tv (own.map (·.2)) σ H (fun x H1 => gName i x σ H1 D.nx) := h
  refine wpAny_bind (thn (dc_core (Qf := fun _ s' => SP X pins D .next s') hc hN I hi ok hg (fun _ _ _ _ _ => pts_nil) hk he hs h fun L C s' m H' I' q hn f => ?_) fun _ s' hq => wpAny_pure (wpAny_pure hq))
  show _root_.PySem.wpAny _ _ (assign (.Name y py) X.env (.ref L)) _ _ _
  refine wpAny_assign_Name (store_ok2 (v := V.ref L) I' hN hy (.inl hyl) rfl (fun s2 I2 ⟨a, sb, ha⟩ => ?_) (.inr hyl))
  obtain ⟨f0, f1, f2, f3, f4, f5⟩ := f
  have haC : C ≠ a := ha.elim (fun z => by rw [z]; exact f1) fun z e => f4 y a z e.symm
  exact ⟨m, hn.sameBut sb haC, fun h3 sb3 => ⟨_, H', I2.turned (t' := s2.toks) (fun b o hb e => (sb3.2 b hb).trans e) f0 f1 f3 f4 f5, q⟩⟩
theorem _root_.L2.PS.emptyT {st : Stmt} {t : TS} (h : PS X st t) : PS X st (fun E σ H => t { nx := fun σ' H' => ∃ d, H' d = some (.dK []) ∧ E.nx σ' (upd H' d (.dT [])), rt := E.rt, bk := E.bk, ct := E.ct } σ H) :=
  ⟨fun pins s σ H D I hw => thn (h.run pins s σ H _ I hw) fun fl s1 q => by
    cases fl with
    | next =>
      obtain ⟨σ', H1, I1, d, hd, q⟩ := q
      have k := I1.hok d _ hd
      obtain ⟨_, _, _, _, o, _, _, e, _⟩ := id (dt_of_dk (H' := H1) k)
      exact ⟨σ', _, I1.write (x := d) (e := d) (t' := s1.toks) (h' := s1.heap) (o := .dT []) (by rw [hd]; exact True.intro) (.inl rfl) (fun b v _ q => q) ⟨o, e⟩ (dt_of_dk k), q⟩
    | brk => exact q
    | cont => exact q
    | ret v => exact q⟩
theorem sds_dcE (i : Nat) {W : List Addr} {D : EndsD} {rest : List Stmt} {y : Str} {py spos : Pos} (hi : ID X δ tg iter []) (ok : BlkOk X.N X.env.scope scope own) (hN : X.N.Nodup) (hr : SDs X W (δ.set i (some (.sh .te))) rest D) (hsw : swapsWith (.DictComp kx vx [⟨tg, iter, [], 0⟩] scope pos) (some (.Name y py)) spos.line X.env = pure true := by rfl)
    (hy : X.N[i]? = some y := by rfl) (hyl : X.env.scope.names.lookup y = some .local := by rfl) (hc : X.calm = true := by rfl) (hs : ∀ x, foldedSetIterable iter X.env x = pure x := by intro _; rfl) : SDs X W δ (.Assign [.Name y py] (.DictComp kx vx [⟨tg, iter, [], 0⟩] scope pos) spos :: rest) D :=
  sds_cons (M := fun δ' => δ' = δ.set i (some (.sh .te))) (PS.imp (PS.emptyT (ps_setDc (g := fun _ _ _ _ => False) (tk := fun _ _ _ => False) (tv := fun _ _ _ => False) hc hN hy hyl hsw hi ok
    (fun s H C cl fp => ⟨fun _ _ _ _ _ _ _ _ _ z => z.elim⟩) (fun s H C cl fp => ⟨fun _ _ _ _ _ _ z => z.elim⟩) (fun s H C cl fp => ⟨fun _ _ _ _ _ _ z => z.elim⟩) hs)) fun E σ H ⟨G0, H0, G, fr, sl, q⟩ => ⟨_, G, fr.s, sl, fun J G1 H1 f1 wk D hD => by
      refine ⟨fun i m H' => i = 0 ∧ H' = upd H1 D (.dK []), ⟨0, rfl, rfl⟩, ?_⟩
      rintro j m H' ⟨rfl, rfl⟩
      have fr0 : Fr [] G1 H1 G1 (upd H1 D (.dK [])) := Fr.fresh f1.s hD
      obtain ⟨w1, w2, w3⟩ := wk G1 _ (Same.refl _) fr0.s
      have gD' : G1 D = none := f1.s.free hD
      have fz := (fr0.write (o := .dT []) (.inl hD) gD').freeze hD upd_same gD'
      obtain ⟨fr1, sl1⟩ := go fr sl (f1.trans fz)
      exact .inl ⟨w2, D, upd_same, q.nx _ _ _ ⟨_, (f1.trans fz).g, fr1, sl1.set i (.te upd_same)⟩ rfl⟩⟩) fun δ' z => z ▸ hr
end
end AL
end
/-! AP39 -/
section
set_option Elab.async false
set_option linter.all false
set_option maxRecDepth 100000
set_option maxHeartbeats 4000000
namespace AP
open PySem PySem.Spec PyProof.Rows L2 AL AZ
theorem map_false (l : List Dt) : l.map (fun _ => Dt.bl false) = (l.map fun _ => false).map Dt.bl := by simp
theorem any_false (l : List Dt) : (l.map fun _ => false).any id = false := by
  rw [List.any_eq_false]
  intro x hx
  obtain ⟨_, _, rfl⟩ := List.mem_map.mp hx
  simp
section
variable {P : Program} {w : World} {K : PySem.W.Frag} {mg : Str → Option Value} {base : Heap}
theorem p_need_lets (Z : Zc K mg) : FnP P w K mg base 4 "need_lets" (fun ds d => ∃ (ws t : List (List Nat)) (n m : Nat), MOk t n ∧ (∀ k, k < t.length → SetAt t n k 1) ∧ t.length ≤ 100 ∧ 1 ≤ m ∧ m ≤ 3 ∧ ds = [machD K ws t n, .int (m : Nat)] ∧ d = .non) 2 [] :=
  Z.mk_need_lets fun cdv A outer s H E ds d hr ⟨ws, t, n, m, hm, hs, ht, m1, m3, e1, e2⟩ => by
    subst e1 e2
    have hlen : (deedsD t).length = t.length := by simp [deedsD]
    refine sds_drop (ed_call (p_need_machine Z) hr (ea_cons (ed_var 0) ea_nil) ⟨ws, t, n, rfl, rfl⟩) ?_
    refine sds_drop (ed_call (p_need_number Z) hr (ea_cons (ed_var 1) (ea_cons ed_str (ea_cons ed_int (ea_cons (ed_gi Z.c_MOST_EDITS_copies) ea_nil)))) (.mk _ _ _ _ (by omega) (by omega))) ?_
    refine sds_ifF (et_val (ed_is (ed_cb (ea_cons (ed_is (ed_lcM 2 (ds := ntl (List.range t.length)) (fun _ => .bl false) (id_is (id_range1 (ea_cons (ed_cb (ea_cons (ed_deeds Z (ed_var 0)) ea_nil) cld_lenT Z.f_len) ea_nil) (by rw [hlen]; omega) Z.f_range) (by rw [Int.toNat_natCast, hlen]; exact range_nat _)) (blkOk_by (by kernel_rfl)) S_need_lets.nd (fun s H C cl fp d hd => ?_) (by rw [ntl_len, List.length_range]; omega)) (congrArg Dt.lst (map_false _))) ea_nil) cld_any Z.f_any) (congrArg Dt.bl (any_false _)))) (sds_nil rfl)
    obtain ⟨k, hk, rfl⟩ := ntl_mem hd
    have hk := List.mem_range.mp hk
    exact ed_cmp (ed_call (p_settling Z) hr (ea_cons (ed_var 0) (ea_cons (ed_var 2) ea_nil)) ⟨ws, t, n, k, 1, hm, hk, hs k hk, rfl, rfl⟩) ed_int (opd_b opd_ne (by simp))
theorem p_rows_asked (Z : Zc K mg) : FnP P w K mg base 1 "rows_asked" (fun ds d => ∃ n : Nat, n ≤ 100 ∧ ds = [.int (n : Nat), .te] ∧ d = .lst []) 2 [] :=
  Z.mk_rows_asked fun cdv A outer s H E ds d hr ⟨n, hn, e1, e2⟩ => by
    subst e1 e2
    have hrg : rangeD 0 (n : Int).toNat = ntl (List.range n) := by rw [Int.toNat_natCast]; exact range_nat _
    refine sds_lcMIf 2 3 (ds := ntl (List.range n)) (fun _ => false) (fun d => .tup [d]) (id_is (id_range1 (ea_cons (ed_var 0) ea_nil) (by omega) Z.f_range) hrg) (blkOk_by (by kernel_rfl)) S_rows_asked.nd (fun s H C cl fp d hd => ?_) (fun s H C cl fp d hd hb => ed_tup (ea_cons (ed_var 3) ea_nil)) (by rw [ntl_len, List.length_range]; omega) ?_
    · obtain ⟨k, hk, rfl⟩ := ntl_mem hd
      exact et_inE (i := k) (j := k) hr.units (ed_tup (ea_cons (ed_var 3) (ea_cons (ed_var 3) ea_nil))) (ed_var 1)
    · rw [show (ntl (List.range n)).filter (fun _ => false) = [] from List.filter_eq_nil_iff.mpr fun a _ => by simp]
      refine sds_cons (M := fun δ' => ∃ o3 o4, δ' = [some (.sh (.int (n : Nat))), some (.sh .te), some (.sh (.lst [])), o3, o4, none])
        (sd_for (ds := ntl (List.range n)) (vs := [3]) (δt := fun i δ' => δ'.set 3 (some (.sh ((ntl (List.range n)).getD i .non)))) (fun _ δ' => ∃ o3 o4, δ' = [some (.sh (.int (n : Nat))), some (.sh .te), some (.sh (.lst [])), o3, o4, none]) (id_is (id_range1 (ea_cons (ed_var 0) ea_nil) (by omega) Z.f_range) hrg) ⟨none, none, rfl⟩ ?_ ?_ ?_) ?_
      · rintro i d δ' hd ⟨o3, o4, rfl⟩
        rw [getD_of hd]
        exact gd_name 3 S_rows_asked.nd
      · rintro i d δ' hd ⟨o3, o4, rfl⟩
        rw [getD_of hd]
        obtain ⟨hi, rfl⟩ := nr_get hd
        refine sds_cons (M := fun δ' => ∃ o4, δ' = [some (.sh (.int (n : Nat))), some (.sh .te), some (.sh (.lst [])), some (.sh (.int (i : Nat))), o4, none])
          (sd_for (ds := ntl (List.range n)) (vs := [4]) (δt := fun i δ' => δ'.set 4 (some (.sh ((ntl (List.range n)).getD i .non)))) (fun _ δ' => ∃ o4, δ' = [some (.sh (.int (n : Nat))), some (.sh .te), some (.sh (.lst [])), some (.sh (.int (i : Nat))), o4, none]) (id_is (id_range1 (ea_cons (ed_var 0) ea_nil) (by omega) Z.f_range) hrg) ⟨o4, rfl⟩ ?_ ?_ ?_) ?_
        · rintro j d δ' hd ⟨o4, rfl⟩
          rw [getD_of hd]
          exact gd_name 4 S_rows_asked.nd
        · rintro j d δ' hd ⟨o4, rfl⟩
          rw [getD_of hd]
          obtain ⟨hj, rfl⟩ := nr_get hd
          refine sds_ifF (et_val (ed_is (ed_cb (ea_cons (ed_is (ed_lcM 5 (ds := [pkD i i, pkD i j, pkD j j]) (fun _ => .bl false) (id_tup (ed_tup (ea_cons (ed_tup (ea_cons (ed_var 3) (ea_cons (ed_var 3) ea_nil))) (ea_cons (ed_tup (ea_cons (ed_var 3) (ea_cons (ed_var 4) ea_nil))) (ea_cons (ed_tup (ea_cons (ed_var 4) (ea_cons (ed_var 4) ea_nil))) ea_nil))))) (blkOk_by (by kernel_rfl)) S_rows_asked.nd (fun s H C cl fp d hd => ?_) (by simp)) (congrArg Dt.lst (map_false _))) ea_nil) cld_any Z.f_any) (congrArg Dt.bl (any_false _)))) (sds_nil ⟨_, rfl⟩)
          simp only [List.mem_cons, List.not_mem_nil, or_false] at hd
          rcases hd with rfl | rfl | rfl
          · exact ed_inE (i := i) (j := i) hr.units (ed_var 5) (ed_var 1)
          · exact ed_inE (i := i) (j := j) hr.units (ed_var 5) (ed_var 1)
          · exact ed_inE (i := j) (j := j) hr.units (ed_var 5) (ed_var 1)
        · rintro δ' ⟨o4, rfl⟩
          exact ⟨o4, rfl⟩
        · rintro δ' ⟨o4, rfl⟩
          exact sds_nil ⟨_, o4, rfl⟩
      · rintro δ' ⟨o3, o4, rfl⟩
        exact ⟨o3, o4, rfl⟩
      · rintro δ' ⟨o3, o4, rfl⟩
        exact sds_ret (ed_var 2) rfl
theorem p_judged_machine (Z : Zd K mg) (hP : Pf P fileS) : FnP P w K mg base 8 "judged_machine" (fun ds d => ∃ (ws t : List (List Nat)) (n m : Nat), MOk t n ∧ BOk ws ∧ Wds ws ∧ (∀ k, k < t.length → SetAt t n k 1) ∧ t.length ≤ 100 ∧ 1 ≤ m ∧ m ≤ 3 ∧ madeW ws m = [] ∧ ds = [machD K ws t n, .int (m : Nat)] ∧ d = letsV K) 2 [] :=
  Z.z.mk_judged_machine fun cdv A outer s H E ds d hr ⟨ws, t, n, m, hm, hb, hw, hs, ht, m1, m3, hmw, e1, e2⟩ => by
    subst e1 e2
    have hlen : (deedsD t).length = t.length := by simp [deedsD]
    refine sds_drop (ed_call (p_need_lets Z.z) hr (ea_cons (ed_var 0) (ea_cons (ed_var 1) ea_nil)) ⟨ws, t, n, m, hm, hs, ht, m1, m3, rfl, rfl⟩) ?_
    refine sds_dcE 2 (own := [("first", 3), ("second", 4), ("word", 5)]) (id_tup (ed_is (ed_call (p_made_words Z.z) hr (ea_cons (ed_book Z.z (ed_var 0)) (ea_cons (ed_var 1) ea_nil)) ⟨ws, m, hw, by omega, rfl, rfl⟩) (by rw [hmw]; rfl))) (blkOk_by (by kernel_rfl)) S_judged_machine.nd ?_
    refine sds_set 6 (d := walkV K ws t n m) (ed_make (m_Walk Z.z) hr (ea_cons (ed_var 0) (ea_cons (ed_var 1) ea_nil)) ⟨ws, t, n, m, hb, rfl, rfl, rfl⟩) ?_ S_judged_machine.nd
    refine sds_cons (M := fun δ' => δ' = [some (.sh (machD K ws t n)), some (.sh (.int (m : Nat))), some (.sh .te), none, none, none, some (.sh (walkV K ws t n m)), none, none, none])
      (sd_for (ds := []) (vs := [7]) (δt := fun i δ' => δ') (fun i δ' => δ' = [some (.sh (machD K ws t n)), some (.sh (.int (m : Nat))), some (.sh .te), none, none, none, some (.sh (walkV K ws t n m)), none, none, none]) (id_list (ed_call (p_rows_asked Z.z) hr (ea_cons (ed_cb (ea_cons (ed_deeds Z.z (ed_var 0)) ea_nil) cld_lenT Z.z.f_len) (ea_cons (ed_var 2) ea_nil)) ⟨t.length, ht, by rw [hlen]; rfl, rfl⟩)) rfl (fun i d δ' hd => nomatch hd) (fun i d δ' hd => nomatch hd) (fun δ' h => h)) ?_
    rintro δ' rfl
    exact sds_ret (ed_make0 (m_Lets Z hP) hr ⟨rfl, rfl, rfl⟩) rfl
end
end AP
end
/-! AL39 -/
section
set_option Elab.async false
set_option linter.all false
set_option maxRecDepth 100000
set_option maxHeartbeats 4000000
namespace AL
open PySem L2
/-! ### the harbor, made -/
def spHb (K : PySem.W.Frag) : Sp := fun vs H Q _ => ∃ (G : Hp) (v : V) (cs : List Int), vs = [v] ∧ Same G H ∧ Rp K G v (.sc cs) ∧ cs.length ≤ 1000 ∧ ∀ a G' H', Fr [] G H G' H' → H a = none → G' a = none → HbAt K G' H' a 0 → Q (.ref a) H'
structure FnM (P : Program) (w : World) (K : PySem.W.Frag) (mg : Str → Option Value) (base : Heap) (k : Nat) (x : Str) : Prop where
  ex : ∃ (f : Addr) (fd : FuncData) (ps : List Str), FnOk P w K mg base CX0 k f fd ps (spHb K) ∧ mg x = some (.ref f) ∧ PySem.W.keepIn K (.ref f) = true ∧ Binds K fd ps []
section
variable {P : Program} {w : World} {K : PySem.W.Frag} {mg : Str → Option Value} {base : Heap} {x qual : Str} {params : Arguments} {es : List Expr} {p pos : Pos} {scope : Scope} {dvs : List V} {f : Addr} {fd : FuncData} {N ps : List Str} {k : Nat}
/-- return [..] of the harbor -/
theorem fnOkM_of {kws : List (Str × V)} (F : FunD K x qual params [.Return (some (.List es p)) pos] scope dvs kws f fd) (S : FnScope N ps scope) (hm : ps.length = 1)
    (hb : ∀ (cdv : Value) (A : Around) (outer : List Env) (s : Shared) (H : Hp) (E : XK) (cs : List Int), cs.length ≤ 1000 → Room k (A.deeper (PyProof.Rows.envOfC qual scope s.heap.objs.size f cdv)) →
      ∃ cs2 : List Int, EA (cxOf CX0 P w K mg base N qual scope f cdv A outer s H E).nox (argsD N [.sc cs]) es [.lst (cs2.map .int), .int 0, .int 0]) : FnOk P w K mg base CX0 (k + 1) f fd ps (spHb K) := by
  refine F.ok S (fun vs H Q E ⟨G, v, cs, h1, _⟩ => by rw [h1, hm]; rfl) fun cdv A outer s H vs Q E hr h => ?_
  have h' := h
  obtain ⟨G, v, cs, h1, e, r, hz, q⟩ := h'
  obtain ⟨cs2, hea⟩ := hb cdv A outer s H E cs hz hr
  refine ⟨_, PSs.nox (pss_one (ps_ret (pe_lst hea))), ?_⟩
  subst h1
  refine ⟨⟨[], H⟩, G, e, Sl.start (.cons r .nil), fun vs G1 H1 f1 r1 => ?_⟩
  cases r1 with
  | cons r1 r2 =>
  cases r2 with
  | cons r2 r3 =>
  cases r3 with
  | cons r3 r4 =>
  cases r4
  cases r2
  cases r3
  cases r1 with
  | @lst c _ _ hx rx =>
  obtain rfl := rx.of_ints
  refine ⟨by show 3 ≤ _; decide, fun l hl => ?_⟩
  have h0 : H l = none := by
    cases q : H l with
    | none => rfl
    | some o => exact absurd hl (f1.t l (ne_none q))
  have ff := Fr.fresh (W := ([] : List Addr)) (G := G1) (o := .lst [.ref c, .int 0, .int 0]) f1.s hl
  exact q l G1 _ (f1.trans ff) h0 (f1.s.free hl) ⟨_, 0, 0, cs2, upd_same, hx, Int.le_refl _, Int.le_refl _, Int.le_refl _⟩
end
section
variable {X : Cx} {W : List Addr} {δ : De} {D : EndsD} {e b : Expr} {es : List Expr} {cs : List Int} {rest : List Stmt} {p p2 pos cpos : Pos} {i k j : Nat} {x : Str} {F : Eff} {Φ : Dt → F.ι → Prop}
/-- a part of a given list of numbers -/
theorem ed_slSc {a : Expr} {lo hi : Option Expr} {l h : Option Int} (ha : ED X δ a (.sc cs)) (hl : EO X δ lo l) (hh : EO X δ hi h) : ED X δ (.Subscript a (.Slice lo hi none p2) pos) (.lst (cutG (cs.map .int) l h)) :=
  PE.imp (pe_slice sl_list ha hl hh) fun σ H Q ⟨O, G, e, s, k⟩ => ⟨O, G, e, s, fun v G1 H1 f1 r1 => ⟨O, G1, f1.s, s.mono f1, fun G2 H2 f2 => ⟨O, G2, f2.s, (s.mono f1).mono f2, fun G3 H3 f3 => by
    cases r1 with
    | sc hx =>
    refine ⟨_, _, rfl, sq_mono f3.s (sq_mono f3.g (sq_mono f2.g hx)), fun p hp => ?_⟩
    obtain ⟨f, r⟩ := new_lst (W := []) f3.s hp ((RpL.ints (K := X.K) (G := G3) (ns := cs)).cut l h)
    exact k _ _ _ (((f1.trans f2).trans f3).trans f) r⟩⟩⟩
/-- h = harbor(script) -/
theorem sds_setHb (i : Nat) {y : Str} (C : FnM X.prog X.w X.K X.mg X.base k x) (hr : Room j X.A) (ha : ED X δ e (.sc cs)) (hz : cs.length ≤ 1000) (hrest : ∀ a, SDs X W (δ.set i (some (.hb a 0))) rest D) (hN : X.N.Nodup) (hk : k ≤ j := by decide) (hi : X.N[i]? = some y := by rfl) (hx : Loc X.env.scope y := by first | exact Or.inl rfl | exact Or.inr rfl)
    (hg : Gl X x := by rfl) (hdb : (x == ("__debug__" : Str)) = false := by decide) (he : starEach [e] X.env = (false, eval e X.env) :: starEach [] X.env := by rfl) (hpl : (backTo cpos (starEach ([] : List Expr) X.env)).any (·.1) = false := by rfl)
    (hs : swapsWith (.Call (.Name x p2) [e] [] cpos) (some (.Name y p)) pos.line X.env = pure false := by rfl)
    (hf : X.fn y = true ∨ X.env.scope.names.lookup y = some .local := by first | exact .inl rfl | exact .inr rfl) : SDs X W δ (.Assign [.Name y p] (.Call (.Name x p2) [e] [] cpos) pos :: rest) D := by
  obtain ⟨f, fd, ps, Fk, hm, kp, bd⟩ := C.ex
  refine sds_cons (M := fun δ' => ∃ a, δ' = δ.set i (some (.hb a 0))) (PS.imp (ps_set hN hi hx (pe_call Fk (hr.mono hk) hg hm kp bd .nil pass0 (ea_cons ha ea_nil he) hdb he hpl) hs hf) fun E σ H ⟨G0, H0, G, fr, sl, q⟩ => ⟨_, G, fr.s, sl, fun vs G1 H1 f1 r1 => ?_⟩) fun δ' ⟨a, z⟩ => z ▸ hrest a
  cases r1 with
  | cons r1 r2 =>
  cases r2
  obtain ⟨fr1, sl1⟩ := go fr sl f1
  refine ⟨G1, _, cs, rfl, f1.s, r1, hz, fun a G2 H2 f2 h0 g2 hb => ?_⟩
  obtain ⟨fr2, sl2⟩ := go fr1 sl1 f2
  have h00 : H0 a = none := by
    cases q : H0 a with
    | none => rfl
    | some o => exact absurd h0 (fr1.t a (ne_none q))
  refine q.nx _ _ _ ⟨G2, f1.g.trans f2.g, fr2, sl2.putN i (s := .hb a 0) ⟨rfl, hb, g2, .inl h00⟩ fun j s' w hj hw l hl z => ?_⟩ ⟨a, rfl⟩
  obtain rfl : l = a := List.mem_singleton.mp z
  exact sl1.there hj hw hl h0
/-- a target of any form, e changes the slot -/
theorem sds_asgF {tg : Expr} {vs : List Nat} {T : Dt → F.ι → De} {x0 : F.ι} (he : EF F i X δ e Φ) (hg : ∀ d y, Φ d y → GD X vs (δ.set i (some (F.sd y))) tg d (T d y)) (hr : ∀ d y, Φ d y → SDs X W (T d y) rest D) (h0 : δ[i]? = some (some (F.sd x0)) := by rfl) (hs : swapsWithSole [tg] e pos.line X.env = pure false := by rfl) (hw : swappedStores [tg] e X.env = pure none := by rfl)
    (h1 : (assignEach [tg] X.env).map (·.2) = [assign tg X.env] := by rfl) : SDs X W δ (.Assign [tg] e pos :: rest) D :=
  sds_cons (M := fun δ2 => ∃ d y, Φ d y ∧ δ2 = T d y) (PS.imp (ps_asg he (PG.ex fun p : { p : Dt × F.ι // Φ p.1 p.2 } => hg p.1.1 p.1.2 p.2) hs hw h1) fun E σ H ⟨G0, H0, G, fr, sl, q⟩ => ⟨_, G, fr.s, sl, fun v d y G1 H1 f1 s1 r1 h1 =>
    ⟨⟨(d, y), h1⟩, _, G1, f1.s, s1, r1, fun σ' s' _ => q.nx _ _ _ ⟨G1, f1.g, fr.join f1 (sl.may h0), s'⟩ ⟨d, y, h1, rfl⟩⟩⟩) fun δ2 ⟨d, y, h1, z⟩ => z ▸ hr d y h1
/-- return a and b, both true -/
theorem ef_and {Ψ : Dt → F.ι → Prop} (ha : EF F i X δ e Ψ) (hb : ∀ d y, Ψ d y → d = .bl true ∧ EF F i X (δ.set i (some (F.sd y))) b Φ) : EF F i X δ (.BoolOp .And [e, b] pos) Φ :=
  PE.imp (pe_and ha (pe_one (PE.ex fun y : { y : F.ι // ∃ d, Ψ d y } => (hb _ _ y.2.choose_spec).2))) fun σ H Q ⟨O, G, e, s, q⟩ => ⟨O, G, e, s, fun v d y G1 H1 f1 s1 r1 h1 => by
    obtain ⟨rfl, _⟩ := hb d y h1
    cases r1
    exact ⟨_, rfl, iteT ⟨⟨y, _, h1⟩, O, G1, f1.s, s1, fun v d y G2 H2 f2 s2 r2 h2 => q v d y G2 H2 (f1.trans f2) (by rw [List.set_set] at s2; exact s2) r2 h2⟩⟩⟩
end
end AL
end
/-! AP40 -/
section
set_option Elab.async false
set_option linter.all false
set_option maxRecDepth 100000
set_option maxHeartbeats 4000000
namespace AP
open PySem PySem.Spec PyProof.Rows L2 AL AZ
section
variable {P : Program} {w : World} {K : PySem.W.Frag} {mg : Str → Option Value} {base : Heap}
theorem p_harbor (Z : Zc K mg) : FnM P w K mg base 1 "_law_harbor" := by
  obtain ⟨fd, F⟩ := Z.d_L_harbor
  have b : Binds K fd P_L_harbor [] := F.bindsN fun _ _ _ _ _ _ us hl => match us, hl with | [_], _ => rfl
  refine ⟨_, fd, P_L_harbor, fnOkM_of (k := 0) F S_L_harbor rfl ?_, Z.g_L_harbor, F.kp, b⟩
  intro cdv A outer s H E cs hz hr
  have ec : cutG (cs.map Dt.int) none (some 60) = (cs.take 60).map Dt.int := by
    rw [show (some (60 : Int)) = some ((60 : Nat) : Int) from rfl, cutG_to, List.map_take]
  have hl : (cutG (cs.map Dt.int) none (some 60)).length ≤ 1000 := by
    rw [ec, List.length_map, List.length_take]
    omega
  refine ⟨cs.take 60, ea_cons (ed_is (ed_lcM 1 (fun d => d) (id_list (ed_slSc (ed_var (d := .sc cs) 0) eo_none (eo_some ed_int)) (by intro _; rfl)) (blkOk_by (by kernel_rfl)) S_L_harbor.nd (fun s H C cl fp d hd => ?_) (by omega)) ?_) (ea_cons ed_int (ea_cons ed_int ea_nil))⟩
  · rw [ec] at hd
    obtain ⟨i, _, rfl⟩ := List.mem_map.mp hd
    exact ed_ct (ea_cons (ed_var 1) ea_nil) cld_intI Z.f_int
  · rw [ec, List.map_id']
end
end AP
end
/-! PL1 -/
section
set_option Elab.async false
set_option linter.all false
set_option maxRecDepth 100000
set_option maxHeartbeats 4000000
namespace AP
/-! ### what prices are at least -/
def cutN (l : List Nat) (b : Nat) : Nat := if cutP l b then 1 else 0
/-- a begin that costs no more -/
def LB (l : List Nat) (e m c : Nat) : Prop := ∃ b, b ≤ e ∧ cutN l b + max (e - b) m ≤ c
theorem LB.minP {l : List Nat} {e m : Nat} {p q : Pr} (h1 : LB l e m p.1) (h2 : LB l e m q.1) : LB l e m (minP p q).1 := by
  unfold AP.minP
  split
  · exact h2
  · exact h1
theorem LB.m1 {l : List Nat} {e m c : Nat} (h : LB l e m c) : LB l e (m + 1) (c + 1) := by
  obtain ⟨b, h1, h2⟩ := h
  exact ⟨b, h1, by omega⟩
theorem LB.e1 {l : List Nat} {e m c : Nat} (h : LB l e m c) : LB l (e + 1) m (c + 1) := by
  obtain ⟨b, h1, h2⟩ := h
  exact ⟨b, by omega, by omega⟩
theorem LB.em {l : List Nat} {e m c : Nat} (h : LB l e m c) : LB l (e + 1) (m + 1) (c + 1) := by
  obtain ⟨b, h1, h2⟩ := h
  exact ⟨b, by omega, by omega⟩
def Unlike (l word : List Nat) : Prop := ∀ i j, i < l.length → j < word.length → l[i]? ≠ word[j]?
theorem getD_left {α : Type} {xs ys : List α} {i : Nat} {d : α} (h : i < xs.length) : (xs ++ ys).getD i d = xs.getD i d := by
  rw [List.getD_eq_getElem?_getD, List.getD_eq_getElem?_getD, List.getElem?_append_left h]
theorem getD_right {α : Type} {xs : List α} {y d : α} {i : Nat} (h : i = xs.length) : (xs ++ [y]).getD i d = y := by
  subst h
  simp [List.getD_eq_getElem?_getD]
theorem grow_lb {l word : List Nat} {e : Nat} {prev : List Pr} {f : Pr} (hu : Unlike l word) (he : e ≤ l.length) (hf : LB l e 0 f.1) (hp : ∀ e', e = e' + 1 → ∀ m, m ≤ word.length → LB l e' m (prev.getD m (0, 0)).1) :
    ∀ M, M ≤ word.length → ∀ m, m ≤ M → LB l e m ((growP l word e prev f M).getD m (0, 0)).1
  | 0, _, m, hm => by
    obtain rfl : m = 0 := by omega
    show LB l e 0 (if 0 < e then minP f (raiseP (prev.getD 0 (0, 0)) 1) else f).1
    split
    · obtain ⟨e', rfl⟩ : ∃ e', e = e' + 1 := ⟨e - 1, by omega⟩
      exact hf.minP (hp e' rfl 0 (Nat.zero_le _)).e1
    · exact hf
  | M + 1, hM, m, hm => by
    have ih := grow_lb hu he hf hp M (by omega)
    have hl := grow_len l word e prev f M
    show LB l e m ((growP l word e prev f M ++ [cellP l word e prev (growP l word e prev f M) M]).getD m (0, 0)).1
    by_cases h : m ≤ M
    · rw [getD_left (by omega)]
      exact ih m h
    · obtain rfl : m = M + 1 := by omega
      rw [getD_right (by omega)]
      unfold cellP
      have c1 : LB l e (M + 1) (raiseP ((growP l word e prev f M).getD M (0, 0)) 1).1 := (ih M (Nat.le_refl _)).m1
      split
      · obtain ⟨e', rfl⟩ : ∃ e', e = e' + 1 := ⟨e - 1, by omega⟩
        have hne : ¬ l[e' + 1 - 1]? = word[M]? := hu e' M (by omega) (by omega)
        rw [if_neg hne]
        exact (c1.minP (hp e' rfl (M + 1) hM).e1).minP (hp e' rfl M (by omega)).em
      · exact c1
theorem getLastD_snoc {α : Type} (xs : List α) (x d : α) : (xs ++ [x]).getLastD d = x := by simp
theorem rows_lb {l word : List Nat} (hu : Unlike l word) : ∀ E, E ≤ l.length + 1 → ∀ e, e < E → ∀ m, m ≤ word.length → LB l e m (((rowsP l word l.length E).getD e []).getD m (0, 0)).1
  | 0, _, e, he => absurd he (Nat.not_lt_zero _)
  | E + 1, hE, e, he => by
    intro m hm
    have ih := rows_lb hu E (by omega)
    have hl := rows_len l word l.length E
    show LB l e m (((rowsP l word l.length E ++ [growP l word E ((rowsP l word l.length E).getLastD []) (firstP l (noneP l word) l.length E) word.length]).getD e []).getD m (0, 0)).1
    by_cases h : e < E
    · rw [getD_left (by omega)]
      exact ih e h m hm
    · obtain rfl : e = E := by omega
      rw [getD_right (by omega)]
      refine grow_lb hu (by omega) ?_ ?_ word.length (Nat.le_refl _) m hm
      · unfold firstP
        rw [if_pos (by omega)]
        exact ⟨e, Nat.le_refl _, by unfold cutN; simp⟩
      · rintro e' rfl m' hm'
        have := ih e' (by omega) m' hm'
        have el : (rowsP l word l.length (e' + 1)).getLastD [] = (rowsP l word l.length (e' + 1)).getD e' [] := by
          show (rowsP l word l.length e' ++ [_]).getLastD [] = (rowsP l word l.length e' ++ [_]).getD e' []
          rw [getLastD_snoc, getD_right (rows_len l word l.length e').symm]
        rw [el]
        exact this
/-! #### copies of a word of one letter -/
theorem join_cons2 (a b : List Nat) (r : List (List Nat)) : TL.joinL [32] (a :: b :: r) = a ++ 32 :: TL.joinL [32] (b :: r) := by
  simp [TL.joinL]
theorem join_rep_len (p x : Nat) : ∀ c, (TL.joinL [32] (List.replicate (c + 1) (List.replicate p x))).length + 1 = (c + 1) * (p + 1)
  | 0 => by simp [TL.joinL]
  | c + 1 => by
    have ih := join_rep_len p x c
    rw [List.replicate_succ, List.replicate_succ, join_cons2, ← List.replicate_succ, List.length_append, List.length_replicate, List.length_cons, Nat.succ_mul (c + 1)]
    omega
theorem join_rep_at (p x : Nat) : ∀ c i, i + 1 < (c + 1) * (p + 1) → (TL.joinL [32] (List.replicate (c + 1) (List.replicate p x)))[i]? = some (if i % (p + 1) = p then 32 else x)
  | 0, i, h => by
    have hi : i < p := by omega
    simp [TL.joinL, hi, Nat.mod_eq_of_lt (show i < p + 1 by omega), show ¬ i = p by omega]
  | c + 1, i, h => by
    have ih := join_rep_at p x c
    rw [List.replicate_succ, List.replicate_succ, join_cons2, ← List.replicate_succ]
    rcases Nat.lt_trichotomy i p with hi | hi | hi
    · rw [List.getElem?_append_left (by simpa using hi), List.getElem?_replicate, if_pos hi, Nat.mod_eq_of_lt (by omega), if_neg (by omega)]
    · subst hi
      rw [List.getElem?_append_right (by simp), List.length_replicate, Nat.sub_self, Nat.mod_eq_of_lt (by omega), if_pos rfl]
      rfl
    · obtain ⟨k, rfl⟩ : ∃ k, i = k + (p + 1) := ⟨i - (p + 1), by omega⟩
      rw [List.getElem?_append_right (by simp; omega), List.length_replicate, show k + (p + 1) - p = k + 1 by omega, List.getElem?_cons_succ, ih k (by rw [Nat.succ_mul (c + 1)] at h; omega), Nat.add_mod_right]
section
variable {p q x y : Nat}
theorem cop_spec (p q x y : Nat) : ∃ c, (copT (List.replicate p x) (List.replicate q y)).length + 1 = (c + 1) * (p + 1) ∧ ∀ i, i + 1 < (c + 1) * (p + 1) → (copT (List.replicate p x) (List.replicate q y))[i]? = some (if i % (p + 1) = p then 32 else x) := by
  obtain ⟨c, hc⟩ : ∃ c, toldN (List.replicate p x) (List.replicate q y) = c + 1 := by
    unfold toldN
    exact ⟨_, rfl⟩
  refine ⟨c, ?_, ?_⟩
  · unfold copT
    rw [hc]
    exact join_rep_len p x c
  · unfold copT
    rw [hc]
    exact join_rep_at p x c
theorem cut_zero {l : List Nat} {b : Nat} (h : cutN l b = 0) : b = 0 ∨ l[b - 1]? = some 32 := by
  unfold cutN cutP at h
  by_cases h0 : 0 < b
  · by_cases h1 : l[b - 1]? = some 32
    · exact .inr h1
    · simp [h0, h1] at h
  · exact .inl (by omega)
theorem cut_one (l : List Nat) (b : Nat) : cutN l b = 0 ∨ cutN l b = 1 := by
  unfold cutN
  split
  · exact .inr rfl
  · exact .inl rfl
theorem at_zero {l : List Nat} {b c : Nat} (hx : x ≠ 32) (hl : l.length + 1 = (c + 1) * (p + 1)) (hat : ∀ i, i + 1 < (c + 1) * (p + 1) → l[i]? = some (if i % (p + 1) = p then 32 else x)) (hb : b ≤ l.length) (h0 : cutN l b = 0) : b % (p + 1) = 0 := by
  rcases cut_zero h0 with z | z
  · subst z
    simp
  · by_cases zb : b = 0
    · subst zb; simp
    · rw [hat (b - 1) (by omega)] at z
      have z := Option.some.inj z
      split at z
      · rename_i w
        have e1 : b = (b - 1) + 1 := by omega
        rw [e1, Nat.add_mod, w]
        rcases Nat.eq_zero_or_pos p with hp | hp
        · subst hp; simp [Nat.mod_one]
        · rw [Nat.mod_eq_of_lt (show 1 < p + 1 by omega), Nat.mod_self]
      · exact absurd z hx
theorem mod_gap {e b : Nat} (h3 : e % (p + 1) = p) (h2 : b % (p + 1) = 0) (hb : b ≤ e) : p ≤ e - b := by
  have d1 := Nat.div_add_mod e (p + 1)
  have d2 := Nat.div_add_mod b (p + 1)
  rw [h3] at d1
  rw [h2] at d2
  have d3 : b / (p + 1) ≤ e / (p + 1) := Nat.div_le_div_right hb
  have d4 := Nat.mul_le_mul_left (p + 1) d3
  omega
theorem len_mod {n c : Nat} (hl : n + 1 = (c + 1) * (p + 1)) : n % (p + 1) = p := by
  have e3 : n = c * (p + 1) + p := by rw [Nat.succ_mul] at hl; omega
  rw [e3, Nat.mul_comm, Nat.mul_add_mod, Nat.mod_eq_of_lt (by omega)]
theorem unlike_of {l : List Nat} {c : Nat} (hxy : x ≠ y) (hy : y ≠ 32) (hl : l.length + 1 = (c + 1) * (p + 1)) (hat : ∀ i, i + 1 < (c + 1) * (p + 1) → l[i]? = some (if i % (p + 1) = p then 32 else x)) : Unlike l (List.replicate q y) := by
  intro i j hi hj
  have hj' : j < q := by simpa using hj
  have e2 : (List.replicate q y)[j]? = some y := by simp [hj']
  rw [hat i (by omega), e2]
  intro z
  have z := Option.some.inj z
  split at z
  · exact hy z.symm
  · exact hxy z
theorem row_at {l word : List Nat} {e : Nat} (he : e < l.length + 1) : ((bestP l word l.length).getD e []).length = word.length + 1 := by
  have hb := best_len l word l.length
  have := rows_row l word l.length (l.length + 1) _ (List.getElem_mem (show e < (bestP l word l.length).length by rw [hb]; exact he))
  rw [List.getD_eq_getElem?_getD, List.getElem?_eq_getElem (by rw [hb]; exact he)]
  exact this
theorem lastP_at {r : List Pr} {q : Nat} (h : r.length = q + 1) : lastP r = r.getD q (0, 0) := by
  unfold lastP
  rw [List.getLastD_eq_getLast?, List.getLast?_eq_getElem?, h, List.getD_eq_getElem?_getD]
  rfl
theorem alone_ge (hx : x ≠ 32) (hxy : x ≠ y) (hy : y ≠ 32) : min (max p q) (q + 1) ≤ aloneN (List.replicate p x) (List.replicate q y) := by
  obtain ⟨c, hl, hat⟩ := cop_spec p q x y
  have hm := minL_mem (l := aloneL (List.replicate p x) (List.replicate q y)) (by unfold aloneL; simp)
  unfold aloneN
  generalize minL (aloneL (List.replicate p x) (List.replicate q y)) = v at hm ⊢
  unfold aloneL at hm
  generalize copT (List.replicate p x) (List.replicate q y) = l at hl hat hm
  have hu := unlike_of (q := q) hxy hy hl hat
  obtain ⟨e, he, em⟩ := List.mem_map.mp hm
  have he := List.mem_range.mp he
  obtain ⟨b, hb, hle⟩ := rows_lb hu (l.length + 1) (Nat.le_refl _) e he q (by simp)
  have em : (lastP ((bestP l (List.replicate q y) l.length).getD e [])).1 + (if e < l.length ∧ l[e]? ≠ some 32 then 1 else 0) = v := em
  rw [lastP_at (q := q) (by rw [row_at he]; simp)] at em
  have hle : cutN l b + max (e - b) q ≤ (((bestP l (List.replicate q y) l.length).getD e []).getD q (0, 0)).1 := hle
  generalize (((bestP l (List.replicate q y) l.length).getD e []).getD q (0, 0)).1 = u at hle em
  rcases cut_one l b with h0 | h0
  · by_cases hcond : e < l.length ∧ l[e]? ≠ some 32
    · rw [if_pos hcond] at em
      omega
    · rw [if_neg hcond] at em
      have h3 : e % (p + 1) = p := by
        by_cases z : e < l.length
        · have z2 : l[e]? = some 32 := Classical.byContradiction fun w => hcond ⟨z, w⟩
          rw [hat e (by omega)] at z2
          have z2 := Option.some.inj z2
          split at z2
          · assumption
          · exact absurd z2 hx
        · obtain rfl : e = l.length := by omega
          exact len_mod hl
      have h4 := mod_gap h3 (at_zero hx hl hat (by omega) h0) hb
      omega
  · omega
theorem side_ge (hx : x ≠ 32) (hxy : x ≠ y) (hy : y ≠ 32) {k : Nat} (hk : k ≤ q) : min (max p k) (k + 1) ≤ (sideL (List.replicate p x) (List.replicate q y)).getD k 0 := by
  obtain ⟨c, hl, hat⟩ := cop_spec p q x y
  unfold sideL
  generalize copT (List.replicate p x) (List.replicate q y) = l at hl hat
  have hu := unlike_of (q := q) hxy hy hl hat
  have el : (bestP l (List.replicate q y) l.length).getLastD [] = (bestP l (List.replicate q y) l.length).getD l.length [] := by
    show (rowsP l _ l.length l.length ++ [_]).getLastD [] = (rowsP l _ l.length l.length ++ [_]).getD l.length []
    rw [getLastD_snoc, getD_right (rows_len l _ l.length l.length).symm]
  have hr : ((bestP l (List.replicate q y) l.length).getD l.length []).length = q + 1 := by rw [row_at (by omega)]; simp
  obtain ⟨b, hb, hle⟩ := rows_lb hu (l.length + 1) (Nat.le_refl _) l.length (by omega) k (by simpa using hk)
  have hle : cutN l b + max (l.length - b) k ≤ (((bestP l (List.replicate q y) l.length).getD l.length []).getD k (0, 0)).1 := hle
  rw [el]
  generalize (bestP l (List.replicate q y) l.length).getD l.length [] = r at hr hle
  have e2 : (r.map (·.1)).getD k 0 = (r.getD k (0, 0)).1 := by
    have hk2 : k < r.length := by omega
    simp [List.getD_eq_getElem?_getD, hk2]
  rw [e2]
  rcases cut_one l b with h0 | h0
  · have h4 := mod_gap (len_mod hl) (at_zero hx hl hat (by omega) h0) hb
    omega
  · omega
theorem side_len (a b : List Nat) : (sideL a b).length = b.length + 1 := by
  unfold sideL
  rw [List.length_map]
  have el : (bestP (copT a b) b (copT a b).length).getLastD [] = (bestP (copT a b) b (copT a b).length).getD (copT a b).length [] := by
    show (rowsP (copT a b) b (copT a b).length (copT a b).length ++ [_]).getLastD [] = (rowsP (copT a b) b (copT a b).length (copT a b).length ++ [_]).getD (copT a b).length []
    rw [getLastD_snoc, getD_right (rows_len (copT a b) b (copT a b).length (copT a b).length).symm]
  rw [el]
  exact row_at (by omega)
theorem border_ge {a b : List Nat} {p p' q m : Nat} (ha : a.length = q + 1) (hb : b.length = q + 1) (h1 : ∀ k, k ≤ q → min (max p k) (k + 1) ≤ a.getD k 0) (h2 : ∀ k, k ≤ q → min (max p' k) (k + 1) ≤ b.getD k 0) (m1 : m ≤ min (max p q) (q + 1)) (m2 : m ≤ min (max p' q) (q + 1)) : m ≤ borderN a b := by
  have hm := minL_mem (l := lostL a b ++ chgL a b) (by unfold lostL; rw [ha, List.range_succ]; simp)
  unfold borderN
  generalize minL (lostL a b ++ chgL a b) = v at hm ⊢
  rcases List.mem_append.mp hm with h | h
  · obtain ⟨i, hi, rfl⟩ := List.mem_map.mp h
    have hi := List.mem_range.mp hi
    have g1 := h1 i (by omega)
    have g2 := h2 (a.length - 1 - i) (by omega)
    omega
  · obtain ⟨i, hi, rfl⟩ := List.mem_map.mp h
    have hi := List.mem_range.mp hi
    have g1 := h1 i (by omega)
    have g2 := h2 (a.length - 1 - i - 1) (by omega)
    omega
end
/-! #### books of words of one letter -/
theorem wd_book {ls : List Nat} {i : Nat} (h : i < ls.length) : wd (bookW ls) i = List.replicate (ls.getD i 0) (97 + i) := by
  unfold wd bookW
  simp [List.getD_eq_getElem?_getD, h]
theorem book_len (ls : List Nat) : (bookW ls).length = ls.length := by simp [bookW]
theorem book_mem {ls : List Nat} {i : Nat} (h : i < ls.length) : List.replicate (ls.getD i 0) (97 + i) ∈ bookW ls := List.mem_map.mpr ⟨i, List.mem_range.mpr h, rfl⟩
theorem costs_mem {ls : List Nat} (hb : ∀ l ∈ ls, 2 ≤ l) {i j : Nat} (hi : i < ls.length) (hj : j < ls.length) (hij : i ≠ j) : min (max (ls.getD i 0) (ls.getD j 0)) (ls.getD j 0 + 1) ∈ costsL (bookW ls) := by
  have bi : 2 ≤ ls.getD i 0 := by
    rw [List.getD_eq_getElem?_getD, List.getElem?_eq_getElem hi]
    exact hb _ (List.getElem_mem hi)
  unfold costsL
  refine List.mem_flatMap.mpr ⟨_, book_mem hi, List.mem_map.mpr ⟨_, List.mem_filter.mpr ⟨book_mem hj, ?_⟩, ?_⟩⟩
  · have : ¬ List.replicate (ls.getD j 0) (97 + j) = List.replicate (ls.getD i 0) (97 + i) := fun z => by
      have l1 := congrArg List.length z
      simp only [List.length_replicate] at l1
      have z2 := congrArg (fun l : List Nat => l[0]?) z
      simp only [List.getElem?_replicate] at z2
      rw [if_pos (by omega), if_pos (by omega)] at z2
      have := Option.some.inj z2
      omega
    exact show (!decide _) = true by rw [decide_eq_false this]; rfl
  · simp
theorem cost_ge {ls : List Nat} (hb : ∀ l ∈ ls, 2 ≤ l) {m : Nat} (hm : ∀ y ∈ costsL (bookW ls), m ≤ y) {t : T3} (ht : t ∈ tripL (bookW ls).length) : m ≤ costN (bookW ls) t := by
  obtain ⟨i, j, k⟩ := t
  obtain ⟨h1, h2, h3, h4, h5⟩ := tripL_mem ht
  rw [book_len] at h1 h2 h3
  have g1 := hm _ (costs_mem hb h1 h3 (Ne.symm h4))
  have g2 := hm _ (costs_mem hb h2 h3 (Ne.symm h5))
  have n32 : ∀ z, 97 + z ≠ 32 := fun z => by omega
  unfold costN
  split
  · show m ≤ aloneN (wd (bookW ls) i) (wd (bookW ls) k)
    rw [wd_book h1, wd_book h3]
    exact Nat.le_trans g1 (alone_ge (n32 _) (by omega) (n32 _))
  · show m ≤ overN (bookW ls) i j k
    unfold overN
    rw [wd_book h1, wd_book h2, wd_book h3, List.reverse_replicate, List.reverse_replicate]
    exact border_ge (q := ls.getD k 0) (by rw [side_len]; simp) (by rw [side_len]; simp) (fun z hz => side_ge (n32 _) (by omega) (n32 _) hz) (fun z hz => side_ge (n32 _) (by omega) (n32 _) hz) g1 g2
theorem made_nil {ls : List Nat} (hb : ∀ l ∈ ls, 2 ≤ l) {m k : Nat} (hm : ∀ y ∈ costsL (bookW ls), m ≤ y) (hk : k < m) : madeW (bookW ls) k = [] := by
  unfold madeW
  refine List.filter_eq_nil_iff.mpr fun t ht => ?_
  have := cost_ge hb hm ht
  simp
  omega
theorem best_some {ws : List (List Nat)} {k : Nat} : ∀ {ts : List T3}, (∀ t ∈ ts, k < costN ws t) → ∀ b : Option (Nat × T3), (∀ c u, b = some (c, u) → k < c) → (b.isSome = true ∨ ts ≠ []) → ∃ c u, ts.foldl (stepB ws) b = some (c, u) ∧ k < c
  | [], _, b, hb, h => by
    rcases h with h | h
    · obtain ⟨⟨c, u⟩, rfl⟩ := Option.isSome_iff_exists.mp h
      exact ⟨c, u, rfl, hb c u rfl⟩
    · exact absurd rfl h
  | t :: ts, ht, b, hb, _ => by
    have h0 := ht t (List.mem_cons_self ..)
    refine best_some (fun t' h' => ht t' (List.mem_cons_of_mem _ h')) (stepB ws b t) (fun c u e => ?_) (.inl ?_)
    · unfold stepB at e
      split at e
      · cases e
        exact h0
      · split at e
        · cases e
          exact h0
        · cases e
          exact hb _ _ rfl
    · unfold stepB
      split
      · rfl
      · split <;> rfl
theorem price_gt {ls : List Nat} (hl : 2 ≤ ls.length) (hb : ∀ l ∈ ls, 2 ≤ l) {m k : Nat} (hm : ∀ y ∈ costsL (bookW ls), m ≤ y) (hk : k < m) : ∃ c u, bestB (bookW ls) (tripL (bookW ls).length) = some (c, u) ∧ k < c := by
  refine best_some (fun t ht => Nat.lt_of_lt_of_le hk (cost_ge hb hm ht)) none (fun c u e => nomatch e) (.inr fun z => ?_)
  have : ((0, 0, 1) : T3) ∈ tripL (bookW ls).length := by
    rw [book_len]
    unfold tripL tripR tripO
    simp only [List.mem_flatMap, List.mem_map, List.mem_filter, List.mem_range]
    exact ⟨0, by omega, 0, by omega, 1, ⟨by omega, by decide⟩, rfl⟩
  rw [z] at this
  cases this
end AP
end
/-! PL2 -/
section
set_option Elab.async false
set_option linter.all false
set_option maxRecDepth 100000
set_option maxHeartbeats 4000000
namespace AP
/-! ### pieces between separators -/
def sgs {α : Type} (p : α → Bool) : List α → List (List α)
  | [] => [[]]
  | c :: r => match p c with
    | true => [] :: sgs p r
    | false => match sgs p r with
      | s :: ss => (c :: s) :: ss
      | [] => [[c]]
section
variable {α β : Type} {p : α → Bool}
theorem sgs_ne (l : List α) : sgs p l ≠ [] := by
  cases l with
  | nil => simp [sgs]
  | cons c r =>
    unfold sgs
    split
    · simp
    · split <;> simp
theorem sgs_hit {c : α} (h : p c = true) (r : List α) : sgs p (c :: r) = [] :: sgs p r := by
  show (match p c with
    | true => [] :: sgs p r
    | false => match sgs p r with
      | s :: ss => (c :: s) :: ss
      | [] => [[c]]) = _
  rw [h]
theorem sgs_miss {c : α} (h : p c = false) {r s : List α} {ss : List (List α)} (e : sgs p r = s :: ss) : sgs p (c :: r) = (c :: s) :: ss := by
  show (match p c with
    | true => [] :: sgs p r
    | false => match sgs p r with
      | s :: ss => (c :: s) :: ss
      | [] => [[c]]) = _
  rw [h, e]
theorem sgs_cases (l : List α) : ∃ s ss, sgs p l = s :: ss := by
  cases h : sgs p l with
  | nil => exact absurd h (sgs_ne l)
  | cons s ss => exact ⟨s, ss, rfl⟩
theorem sgs_app {c : α} (h : p c = true) : ∀ a b : List α, sgs p (a ++ c :: b) = sgs p a ++ sgs p b
  | [], b => by
    rw [List.nil_append, sgs_hit h]
    rfl
  | x :: a, b => by
    have ih := sgs_app h a b
    obtain ⟨s, ss, e⟩ := sgs_cases (p := p) a
    rw [List.cons_append]
    cases hx : p x with
    | true => rw [sgs_hit hx, sgs_hit hx, ih]; rfl
    | false =>
      rw [sgs_miss hx e]
      rw [e, List.cons_append] at ih
      rw [sgs_miss hx ih]
      rfl
theorem sgs_none : ∀ l : List α, (∀ c ∈ l, p c = false) → sgs p l = [l]
  | [], _ => rfl
  | c :: r, h => sgs_miss (h c (List.mem_cons_self ..)) (sgs_none r fun x hx => h x (List.mem_cons_of_mem _ hx))
theorem sgs_free : ∀ (l : List α), ∀ s ∈ sgs p l, ∀ c ∈ s, p c = false
  | [], s, hs, c, hc => by
    rw [List.mem_singleton.mp hs] at hc
    cases hc
  | x :: r, s, hs, c, hc => by
    have ih := sgs_free r
    cases hx : p x with
    | true =>
      rw [sgs_hit hx] at hs
      rcases List.mem_cons.mp hs with rfl | hs
      · cases hc
      · exact ih s hs c hc
    | false =>
      obtain ⟨q, qs, e⟩ := sgs_cases (p := p) r
      rw [sgs_miss hx e] at hs
      rw [e] at ih
      rcases List.mem_cons.mp hs with rfl | hs
      · rcases List.mem_cons.mp hc with rfl | hc
        · exact hx
        · exact ih q (List.mem_cons_self ..) c hc
      · exact ih s (List.mem_cons_of_mem _ hs) c hc
theorem sgs_sub : ∀ l : List α, (sgs p l).flatten.Sublist l
  | [] => by simp [sgs]
  | x :: r => by
    have ih := sgs_sub r
    cases hx : p x with
    | true =>
      rw [sgs_hit hx, List.flatten_cons, List.nil_append]
      exact ih.cons _
    | false =>
      obtain ⟨q, qs, e⟩ := sgs_cases (p := p) r
      rw [sgs_miss hx e]
      rw [e] at ih
      exact ih.cons₂ _
theorem sgs_mem {l s : List α} (hs : s ∈ sgs p l) : ∀ c ∈ s, c ∈ l := fun c hc => (sgs_sub l).subset (List.mem_flatten.mpr ⟨s, hs, hc⟩)
theorem sgs_len {l s : List α} (hs : s ∈ sgs p l) : s.length ≤ l.length := (List.sublist_flatten_of_mem hs |>.trans (sgs_sub l)).length_le
/-- the pieces of a stretch between separators are pieces -/
theorem sgs_mid {z z' c c' : α} {X A S B : List α} (hz : p z = true) (hz' : p z' = true) (hc : p c = true) (hc' : p c' = true) (e : z :: (X ++ [z']) = A ++ c :: (S ++ c' :: B)) {x : List α} (hx : x ∈ sgs p S) : x ∈ sgs p X := by
  have h1 : sgs p (z :: (X ++ [z'])) = [] :: (sgs p X ++ [[]]) := by rw [sgs_hit hz, sgs_app hz']; rfl
  rw [e, sgs_app hc, sgs_app hc'] at h1
  obtain ⟨a, as, ea⟩ := sgs_cases (p := p) A
  rw [ea, List.cons_append] at h1
  have h2 := (List.cons.inj h1).2
  obtain ⟨bs, b, eb⟩ : ∃ bs b, sgs p B = bs ++ [b] := by
    have := List.dropLast_concat_getLast (sgs_ne (p := p) B)
    exact ⟨_, _, this.symm⟩
  rw [eb, ← List.append_assoc, ← List.append_assoc] at h2
  have h3 := (List.append_inj' h2 rfl).1
  rw [← h3]
  simp [hx]
/-- where a piece stands -/
theorem sgs_head {zE : α} (hE : p zE = true) : ∀ (r s : List α) (ss : List (List α)), sgs p r = s :: ss → ∃ z' R, r ++ [zE] = s ++ z' :: R ∧ p z' = true
  | [], s, ss, e => by
    obtain ⟨rfl, rfl⟩ : s = [] ∧ ss = [] := by
      have : ([[]] : List (List α)) = s :: ss := e
      cases this
      exact ⟨rfl, rfl⟩
    exact ⟨zE, [], rfl, hE⟩
  | c :: r, s, ss, e => by
    cases hx : p c with
    | true =>
      rw [sgs_hit hx] at e
      cases e
      exact ⟨c, r ++ [zE], rfl, hx⟩
    | false =>
      obtain ⟨q, qs, e2⟩ := sgs_cases (p := p) r
      rw [sgs_miss hx e2] at e
      cases e
      obtain ⟨z', R, h1, h2⟩ := sgs_head hE r q _ e2
      exact ⟨z', R, by rw [List.cons_append, h1]; rfl, h2⟩
theorem sgs_tail {zE : α} (hE : p zE = true) : ∀ (r s : List α) (ss : List (List α)), sgs p r = s :: ss → ∀ x ∈ ss, ∃ L z z' R, r ++ [zE] = L ++ z :: (x ++ z' :: R) ∧ p z = true ∧ p z' = true
  | [], s, ss, e, x, hx => by
    have : ([[]] : List (List α)) = s :: ss := e
    cases this
    cases hx
  | c :: r, s, ss, e, x, hx => by
    cases hc : p c with
    | true =>
      rw [sgs_hit hc] at e
      cases e
      obtain ⟨q, qs, e2⟩ := sgs_cases (p := p) r
      rw [e2] at hx
      rcases List.mem_cons.mp hx with rfl | hx
      · obtain ⟨z', R, h1, h2⟩ := sgs_head hE r x _ e2
        exact ⟨[], c, z', R, by rw [List.cons_append, h1]; rfl, hc, h2⟩
      · obtain ⟨L, z, z', R, h1, h2⟩ := sgs_tail hE r q _ e2 x hx
        exact ⟨c :: L, z, z', R, by rw [List.cons_append, h1]; rfl, h2⟩
    | false =>
      obtain ⟨q, qs, e2⟩ := sgs_cases (p := p) r
      rw [sgs_miss hc e2] at e
      cases e
      obtain ⟨L, z, z', R, h1, h2⟩ := sgs_tail hE r q _ e2 x hx
      exact ⟨c :: L, z, z', R, by rw [List.cons_append, h1]; rfl, h2⟩
theorem sgs_at {z0 zE : α} (h0 : p z0 = true) (hE : p zE = true) {C x : List α} (hx : x ∈ sgs p C) : ∃ L z z' R, z0 :: (C ++ [zE]) = L ++ z :: (x ++ z' :: R) ∧ p z = true ∧ p z' = true := by
  obtain ⟨q, qs, e⟩ := sgs_cases (p := p) C
  rw [e] at hx
  rcases List.mem_cons.mp hx with rfl | hx
  · obtain ⟨z', R, h1, h2⟩ := sgs_head hE C x qs e
    exact ⟨[], z0, z', R, by rw [h1]; rfl, h0, h2⟩
  · obtain ⟨L, z, z', R, h1, h2⟩ := sgs_tail hE C q qs e x hx
    exact ⟨z0 :: L, z, z', R, by rw [h1]; rfl, h2⟩
end
def isB (c : Nat) : Bool := c == 32
theorem items_sgs (l : List Nat) : itemsL l = sgs isB l := by
  have key : ∀ (l acc : List Nat) (s : List Nat) (ss : List (List Nat)), sgs isB l = s :: ss → TL.spl [32] 0 acc l = (acc ++ s) :: ss := by
    intro l
    induction l with
    | nil =>
      intro acc s ss e
      have : ([[]] : List (List Nat)) = s :: ss := e
      cases this
      rw [TL.spl_nil, List.append_nil]
    | cons c r ih =>
      intro acc s ss e
      obtain ⟨q, qs, e2⟩ := sgs_cases (p := isB) r
      by_cases hc : c = 32
      · subst hc
        rw [sgs_hit (by rfl)] at e
        cases e
        rw [TL.spl_hit (by simp [TL.pre]), List.append_nil, e2]
        have := ih [] q qs e2
        rw [List.nil_append] at this
        exact congrArg _ this
      · have hb : isB c = false := beq_eq_false_iff_ne.mpr hc
        rw [sgs_miss hb e2] at e
        cases e
        rw [TL.spl_miss (by simp [TL.pre]; exact hc), ih (acc ++ [c]) q _ e2, List.append_assoc]
        rfl
  obtain ⟨s, ss, e⟩ := sgs_cases (p := isB) l
  rw [e]
  exact (key l [] s ss e).trans rfl
end AP
end
/-! PL3 -/
section
set_option Elab.async false
set_option linter.all false
set_option maxRecDepth 100000
set_option maxHeartbeats 4000000
namespace AP
/-! ### a damaged text beside the sound one, column by column -/
abbrev Tg := Nat × Nat
structure Col where
  t : Option Tg
  b : Option Nat
def topC (C : List Col) : List Tg := C.filterMap Col.t
def botC (C : List Col) : List Nat := C.filterMap Col.b
def kept (c : Col) : Bool := match c.t, c.b with
  | some x, some b => x.1 == b
  | _, _ => false
def costC (C : List Col) : Nat := C.countP fun c => !kept c
theorem top_app (a b : List Col) : topC (a ++ b) = topC a ++ topC b := List.filterMap_append
theorem bot_app (a b : List Col) : botC (a ++ b) = botC a ++ botC b := List.filterMap_append
theorem cost_app (a b : List Col) : costC (a ++ b) = costC a + costC b := List.countP_append
theorem cost_cons (c : Col) (C : List Col) : costC (c :: C) = (if kept c = true then 0 else 1) + costC C := by
  unfold costC
  rw [List.countP_cons]
  cases kept c <;> simp [Nat.add_comm]
theorem bot_some {c : Col} {x : Nat} (h : c.b = some x) (C : List Col) : botC (c :: C) = x :: botC C := by
  unfold botC
  rw [List.filterMap_cons, h]
theorem bot_none {c : Col} (h : c.b = none) (C : List Col) : botC (c :: C) = botC C := by
  unfold botC
  rw [List.filterMap_cons, h]
theorem top_some {c : Col} {x : Tg} (h : c.t = some x) (C : List Col) : topC (c :: C) = x :: topC C := by
  unfold topC
  rw [List.filterMap_cons, h]
theorem top_none {c : Col} (h : c.t = none) (C : List Col) : topC (c :: C) = topC C := by
  unfold topC
  rw [List.filterMap_cons, h]
theorem bot_split : ∀ (C : List Col) (a : Nat), a ≤ (botC C).length → ∃ C1 C2, C = C1 ++ C2 ∧ botC C1 = (botC C).take a ∧ botC C2 = (botC C).drop a
  | [], a, _ => ⟨[], [], rfl, by simp [botC], by simp [botC]⟩
  | c :: C, 0, _ => ⟨[], c :: C, rfl, by simp [botC], rfl⟩
  | c :: C, a + 1, h => by
    cases hb : c.b with
    | none =>
      rw [bot_none hb] at h ⊢
      obtain ⟨C1, C2, e, h1, h2⟩ := bot_split C (a + 1) h
      exact ⟨c :: C1, C2, by rw [e]; rfl, by rw [bot_none hb, h1], h2⟩
    | some x =>
      rw [bot_some hb] at h ⊢
      obtain ⟨C1, C2, e, h1, h2⟩ := bot_split C a (by simpa using h)
      exact ⟨c :: C1, C2, by rw [e]; rfl, by rw [bot_some hb, h1]; rfl, h2⟩
theorem bot_first : ∀ (C : List Col) {x : Nat} {r : List Nat}, botC C = x :: r → ∃ D c E, C = D ++ c :: E ∧ botC D = [] ∧ c.b = some x ∧ botC E = r
  | [], x, r, h => by cases h
  | c :: C, x, r, h => by
    cases hb : c.b with
    | none =>
      rw [bot_none hb] at h
      obtain ⟨D, c', E, e, h1, h2, h3⟩ := bot_first C h
      exact ⟨c :: D, c', E, by rw [e]; rfl, by rw [bot_none hb, h1], h2, h3⟩
    | some y =>
      rw [bot_some hb] at h
      cases h
      exact ⟨[], c, C, rfl, rfl, hb, rfl⟩
theorem top_split : ∀ (Z : List Col) {u : List Tg} {x : Tg} {v : List Tg}, topC Z = u ++ x :: v → ∃ Z1 z Z2, Z = Z1 ++ z :: Z2 ∧ topC Z1 = u ∧ z.t = some x ∧ topC Z2 = v
  | [], u, x, v, h => by
    have : ([] : List Tg) = u ++ x :: v := h
    simp at this
  | c :: C, u, x, v, h => by
    cases ht : c.t with
    | none =>
      rw [top_none ht] at h
      obtain ⟨Z1, z, Z2, e, h1, h2, h3⟩ := top_split C h
      exact ⟨c :: Z1, z, Z2, by rw [e]; rfl, by rw [top_none ht, h1], h2, h3⟩
    | some y =>
      rw [top_some ht] at h
      cases u with
      | nil =>
        rw [List.nil_append] at h
        cases h
        exact ⟨[], c, C, rfl, rfl, ht, rfl⟩
      | cons a u =>
        rw [List.cons_append] at h
        injection h with h1 h2
        obtain ⟨Z1, z, Z2, e, g1, g2, g3⟩ := top_split C h2
        exact ⟨c :: Z1, z, Z2, by rw [e]; rfl, by rw [top_some ht, g1, h1], g2, g3⟩
theorem edit_col {C : List Col} {e : Ed} (h : canE (botC C) e) : ∃ C', topC C' = topC C ∧ botC C' = doneE (botC C) e ∧ costC C' ≤ costC C + 1 := by
  have cost1 : ∀ c : Col, (if kept c = true then 0 else 1) ≤ 1 := fun c => by split <;> omega
  have at_ : ∀ {a : Nat}, a < (botC C).length → ∃ C1 D c E, C = C1 ++ (D ++ c :: E) ∧ botC C1 = (botC C).take a ∧ botC D = [] ∧ botC E = (botC C).drop (a + 1) := fun {a} ha => by
    obtain ⟨C1, C2, e, h1, h2⟩ := bot_split C a (by omega)
    rw [List.drop_eq_getElem_cons ha] at h2
    obtain ⟨D, c, E, e2, g1, g2, g3⟩ := bot_first C2 h2
    exact ⟨C1, D, c, E, by rw [e, e2], h1, g1, g3⟩
  cases e with
  | put a c =>
    obtain ⟨C1, C2, e, h1, h2⟩ := bot_split C a h.1
    refine ⟨C1 ++ ⟨none, some c⟩ :: C2, ?_, ?_, ?_⟩
    · rw [top_app, top_none rfl, ← top_app, ← e]
    · rw [bot_app, bot_some rfl, h1, h2]
      show _ = (_ ++ [c]) ++ _
      simp
    · rw [cost_app, cost_cons]
      have := cost1 ⟨none, some c⟩
      have e2 : costC C = costC C1 + costC C2 := by rw [e, cost_app]
      omega
  | lost a =>
    obtain ⟨C1, D, c, E, e, h1, h2, h3⟩ := at_ h
    have e2 : costC C = costC C1 + (costC D + ((if kept c = true then 0 else 1) + costC E)) := by rw [e, cost_app, cost_app, cost_cons]
    refine ⟨C1 ++ (D ++ ⟨c.t, none⟩ :: E), ?_, ?_, ?_⟩
    · conv => rhs; rw [e]
      rw [top_app, top_app, top_app, top_app]
      congr 2
    · rw [bot_app, bot_app, bot_none rfl, h1, h2, h3]
      show _ = (_ ++ []) ++ _
      simp
    · rw [cost_app, cost_app, cost_cons]
      have := cost1 ⟨c.t, none⟩
      omega
  | chg a x =>
    obtain ⟨C1, D, c, E, e, h1, h2, h3⟩ := at_ h.1
    have e2 : costC C = costC C1 + (costC D + ((if kept c = true then 0 else 1) + costC E)) := by rw [e, cost_app, cost_app, cost_cons]
    refine ⟨C1 ++ (D ++ ⟨c.t, some x⟩ :: E), ?_, ?_, ?_⟩
    · conv => rhs; rw [e]
      rw [top_app, top_app, top_app, top_app]
      congr 2
    · rw [bot_app, bot_app, bot_some rfl, h1, h2, h3]
      show _ = (_ ++ [x]) ++ _
      simp
    · rw [cost_app, cost_app, cost_cons]
      have := cost1 ⟨c.t, some x⟩
      omega
theorem run_cols : ∀ (es : List Ed) (C : List Col), chainE (botC C) es → ∃ C', topC C' = topC C ∧ botC C' = runE (botC C) es ∧ costC C' ≤ costC C + es.length
  | [], C, _ => ⟨C, rfl, rfl, Nat.le_refl _⟩
  | e :: es, C, h => by
    obtain ⟨C1, h1, h2, h3⟩ := edit_col h.1
    obtain ⟨C2, g1, g2, g3⟩ := run_cols es C1 (by rw [h2]; exact h.2.2)
    refine ⟨C2, g1.trans h1, ?_, ?_⟩
    · rw [g2, h2]
      rfl
    · rw [List.length_cons]
      omega
def colsOf (T : List Tg) : List Col := T.map fun x => ⟨some x, some x.1⟩
theorem cols_top : ∀ T : List Tg, topC (colsOf T) = T
  | [] => rfl
  | x :: T => by
    show topC (⟨some x, some x.1⟩ :: colsOf T) = _
    rw [top_some rfl, cols_top T]
theorem cols_bot : ∀ T : List Tg, botC (colsOf T) = T.map (·.1)
  | [] => rfl
  | x :: T => by
    show botC (⟨some x, some x.1⟩ :: colsOf T) = _
    rw [bot_some rfl, cols_bot T]
    rfl
theorem cols_cost : ∀ T : List Tg, costC (colsOf T) = 0
  | [] => rfl
  | x :: T => by
    show costC (⟨some x, some x.1⟩ :: colsOf T) = _
    rw [cost_cons, cols_cost T, if_pos (by simp [kept])]
/-! #### pieces of columns -/
def sepC (c : Col) : Bool := c.b == some 32
theorem sgs_bot : ∀ C : List Col, (sgs sepC C).map botC = sgs isB (botC C)
  | [] => rfl
  | c :: C => by
    have ih := sgs_bot C
    obtain ⟨s, ss, e⟩ := sgs_cases (p := sepC) C
    rw [e] at ih
    cases hb : c.b with
    | none =>
      rw [sgs_miss (by simp [sepC, hb]) e, bot_none hb, List.map_cons, bot_none hb]
      exact ih
    | some x =>
      rw [bot_some hb]
      by_cases hx : x = 32
      · subst hx
        rw [sgs_hit (by simp [sepC, hb]), sgs_hit (by rfl), List.map_cons, e, ih]
        rfl
      · rw [sgs_miss (by simp [sepC, hb, hx]) e, List.map_cons, bot_some hb]
        exact (sgs_miss (p := isB) (show isB x = false from beq_eq_false_iff_ne.mpr hx) ih.symm).symm
theorem kept_at {c : Col} (h : kept c = true) : ∃ y i, c.t = some (y, i) ∧ c.b = some y := by
  obtain ⟨t, b⟩ := c
  cases t with
  | none => cases h
  | some x =>
    cases b with
    | none => cases h
    | some y =>
      have : x.1 = y := by simpa [kept] using h
      exact ⟨y, x.2, by rw [← this], rfl⟩
theorem cost_zero {C : List Col} (h : costC C = 0) : ∀ c ∈ C, kept c = true := fun c hc => by
  have := (List.countP_eq_zero.mp h) c hc
  simpa using this
theorem cost_all {C : List Col} (h : ∀ c ∈ C, kept c = false) : costC C = C.length := by
  unfold costC
  rw [List.countP_eq_length]
  intro c hc
  rw [h c hc]
  rfl
theorem bot_len (C : List Col) : (botC C).length ≤ C.length := List.length_filterMap_le _ _
theorem top_len (C : List Col) : (topC C).length ≤ C.length := List.length_filterMap_le _ _
theorem bot_lt {C : List Col} {c : Col} (hc : c ∈ C) (h : c.b = none) : (botC C).length < C.length := by
  obtain ⟨a, b, rfl⟩ := List.append_of_mem hc
  rw [bot_app, bot_none h, List.length_append, List.length_append, List.length_cons]
  have := bot_len a
  have := bot_len b
  omega
theorem all_kept_bot : ∀ {C : List Col}, (∀ c ∈ C, kept c = true) → botC C = (topC C).map (·.1)
  | [], _ => rfl
  | c :: C, h => by
    obtain ⟨y, i, h1, h2⟩ := kept_at (h c (List.mem_cons_self ..))
    rw [bot_some h2, top_some h1, all_kept_bot fun x hx => h x (List.mem_cons_of_mem _ hx)]
    rfl
end AP
end
/-! PL4 -/
section
set_option Elab.async false
set_option linter.all false
set_option maxRecDepth 100000
set_option maxHeartbeats 4000000
namespace AP
/-! ### the tagged text -/
def tagW (w : List Nat) (i : Nat) : List Tg := w.map fun x => (x, i)
def blk (w : List Nat) (i : Nat) : Nat → List Tg
  | 0 => []
  | n + 1 => (32, i) :: (tagW w i ++ blk w i n)
def tagU (ws : List (List Nat)) (N : Nat) : List Nat → Nat → List Tg
  | [], _ => []
  | k :: r, i => blk (wd ws k) i N ++ tagU ws N r (i + 1)
def sp (ps : List (List Nat)) : List Nat := ps.flatMap fun p => 32 :: p
theorem sp_join : ∀ {ps : List (List Nat)}, ps ≠ [] → sp ps = 32 :: TL.joinL [32] ps
  | [], h => absurd rfl h
  | [p], _ => by simp [sp, TL.joinL]
  | p :: q :: r, _ => by
    have ih := sp_join (ps := q :: r) (by simp)
    unfold sp at ih ⊢
    rw [List.flatMap_cons, ih, join_cons2]
    simp
theorem tagW_fst (w : List Nat) (i : Nat) : (tagW w i).map (·.1) = w := by
  unfold tagW
  rw [List.map_map]
  exact List.map_id' w
theorem blk_fst (w : List Nat) (i : Nat) : ∀ n, (blk w i n).map (·.1) = sp (List.replicate n w)
  | 0 => rfl
  | n + 1 => by
    show 32 :: (tagW w i ++ blk w i n).map (·.1) = _
    rw [List.map_append, tagW_fst, blk_fst w i n, List.replicate_succ]
    unfold sp
    rw [List.flatMap_cons]
    rfl
theorem tagU_fst (ws : List (List Nat)) (N : Nat) (cs : List Nat) : ∀ (r : List Nat) (i : Nat), (∀ k ∈ r, cs.getD k 0 = N) → (tagU ws N r i).map (·.1) = sp (partsM ws r cs)
  | [], _, _ => rfl
  | k :: r, i, h => by
    show (blk _ _ _ ++ tagU ws N r (i + 1)).map (·.1) = _
    rw [List.map_append, blk_fst, tagU_fst ws N cs r (i + 1) fun x hx => h x (List.mem_cons_of_mem _ hx)]
    unfold partsM sp
    rw [List.flatMap_cons, List.flatMap_append, h k (List.mem_cons_self ..)]
    rfl
theorem blk_mem {w : List Nat} {i : Nat} {x : Tg} : ∀ {n : Nat}, x ∈ blk w i n → x.2 = i ∧ (x.1 = 32 ∨ x.1 ∈ w)
  | 0, h => by cases h
  | n + 1, h => by
    rcases List.mem_cons.mp h with rfl | h
    · exact ⟨rfl, .inl rfl⟩
    · rcases List.mem_append.mp h with h | h
      · obtain ⟨y, hy, rfl⟩ := List.mem_map.mp h
        exact ⟨rfl, .inr hy⟩
      · exact blk_mem h
theorem tagU_mem {ws : List (List Nat)} {N : Nat} {x : Tg} : ∀ {r : List Nat} {i : Nat}, x ∈ tagU ws N r i → i ≤ x.2 ∧ x.2 < i + r.length ∧ (x.1 = 32 ∨ x.1 ∈ wd ws (r.getD (x.2 - i) 0))
  | [], i, h => by cases h
  | k :: r, i, h => by
    rcases List.mem_append.mp h with h | h
    · obtain ⟨h1, h2⟩ := blk_mem h
      rw [h1]
      refine ⟨Nat.le_refl _, by simp, ?_⟩
      rw [Nat.sub_self]
      exact h2
    · obtain ⟨h1, h2, h3⟩ := tagU_mem h
      refine ⟨by omega, by simp; omega, ?_⟩
      rw [show x.2 - i = (x.2 - (i + 1)) + 1 by omega]
      exact h3
theorem blk_sorted {w : List Nat} {i n : Nat} : (blk w i n).Pairwise fun a b => a.2 ≤ b.2 :=
  List.pairwise_of_forall_mem_list fun a ha b hb => by rw [(blk_mem ha).1, (blk_mem hb).1]; exact Nat.le_refl _
theorem tagU_sorted {ws : List (List Nat)} {N : Nat} : ∀ (r : List Nat) (i : Nat), (tagU ws N r i).Pairwise fun a b => a.2 ≤ b.2
  | [], _ => .nil
  | k :: r, i => List.pairwise_append.mpr ⟨blk_sorted, tagU_sorted r (i + 1), fun a ha b hb => by
      rw [(blk_mem ha).1]
      have := (tagU_mem hb).1
      omega⟩
/-- a block somewhere in the text -/
theorem tagU_at {ws : List (List Nat)} {N : Nat} : ∀ {r : List Nat} {i a k : Nat}, r[a]? = some k → ∃ u v, tagU ws N r i = u ++ (blk (wd ws k) (i + a) N ++ v) ∧ (v = [] ∨ 1 ≤ N → v = [] ∨ ∃ j v', v = (32, j) :: v')
  | [], i, a, k, h => by simp at h
  | k' :: r, i, 0, k, h => by
    cases h
    refine ⟨[], tagU ws N r (i + 1), rfl, fun h => ?_⟩
    cases r with
    | nil => exact .inl rfl
    | cons k2 r =>
      cases N with
      | zero => exact .inl (by rcases h with h | h; exact h; omega)
      | succ N => exact .inr ⟨_, _, rfl⟩
  | k' :: r, i, a + 1, k, h => by
    obtain ⟨u, v, e, h2⟩ := tagU_at (i := i + 1) (a := a) (r := r) h
    refine ⟨blk (wd ws k') i N ++ u, v, ?_, h2⟩
    show blk _ _ _ ++ tagU ws N r (i + 1) = _
    rw [e, List.append_assoc, show i + 1 + a = i + (a + 1) by omega]
/-- one copy of so many is untouched -/
theorem cover {w : List Nat} {i : Nat} : ∀ (c n : Nat) (Z : List Col) (j : Nat) (rest : List Tg), 2 * c + 1 ≤ n → costC Z ≤ c → topC Z = blk w i n ++ (32, j) :: rest →
    ∃ A z s z' B, Z = A ++ z :: (s ++ z' :: B) ∧ kept z = true ∧ kept z' = true ∧ (∃ a, z.t = some (32, a)) ∧ (∃ a, z'.t = some (32, a)) ∧ (∀ x ∈ s, kept x = true) ∧ topC s = tagW w i := by
  intro c
  induction c using Nat.strongRecOn with
  | _ c ih =>
  intro n Z j rest hn hc hZ
  obtain ⟨n, rfl⟩ : ∃ n', n = n' + 1 := ⟨n - 1, by omega⟩
  have next : ∀ n, ∃ j' rest', blk w i n ++ (32, j) :: rest = (32, j') :: rest' := fun n => by
    cases n with
    | zero => exact ⟨_, _, rfl⟩
    | succ n => exact ⟨_, _, rfl⟩
  obtain ⟨j1, rest1, e1⟩ := next n
  have hZ2 : topC Z = [] ++ (32, i) :: (tagW w i ++ (blk w i n ++ (32, j) :: rest)) := by
    rw [hZ]
    show (32, i) :: (tagW w i ++ blk w i n) ++ _ = _
    simp
  obtain ⟨Z1, z, Z2, rfl, g1, g2, g3⟩ := top_split Z hZ2
  rw [e1] at g3
  obtain ⟨S, z', Z3, rfl, g4, g5, g6⟩ := top_split Z2 g3
  rw [cost_app, cost_cons, cost_app, cost_cons] at hc
  have back : ∀ {Y W : List Col}, Z1 ++ z :: (S ++ z' :: Z3) = Y ++ W → (∃ A z s z' B, W = A ++ z :: (s ++ z' :: B) ∧ kept z = true ∧ kept z' = true ∧ (∃ a, z.t = some (32, a)) ∧ (∃ a, z'.t = some (32, a)) ∧ (∀ x ∈ s, kept x = true) ∧ topC s = tagW w i) → ∃ A z1 s z1' B, Z1 ++ z :: (S ++ z' :: Z3) = A ++ z1 :: (s ++ z1' :: B) ∧ kept z1 = true ∧ kept z1' = true ∧ (∃ a, z1.t = some (32, a)) ∧ (∃ a, z1'.t = some (32, a)) ∧ (∀ x ∈ s, kept x = true) ∧ topC s = tagW w i := fun {Y W} e ⟨A, a, s, b, B, e2, h⟩ => ⟨Y ++ A, a, s, b, B, by rw [e, e2, List.append_assoc], h⟩
  cases hk' : kept z' with
  | true =>
    by_cases h0 : kept z = true ∧ costC S = 0
    · exact ⟨Z1, z, S, z', Z3, rfl, h0.1, hk', ⟨_, g2⟩, ⟨_, g5⟩, cost_zero h0.2, g4⟩
    · have c1 : 1 ≤ (if kept z = true then 0 else 1) + costC S := by
        by_cases hz : kept z = true
        · have : costC S ≠ 0 := fun q => h0 ⟨hz, q⟩
          omega
        · rw [if_neg hz]
          omega
      refine back (Y := Z1 ++ z :: S) (by simp) (ih (c - 1) (by omega) n (z' :: Z3) j rest (by omega) ?_ ?_)
      · rw [cost_cons]
        omega
      · rw [top_some g5, g6, e1]
  | false =>
    rw [hk'] at hc
    have hc1 : 1 ≤ c := by simp at hc; omega
    obtain ⟨n, rfl⟩ : ∃ n', n = n' + 1 := ⟨n - 1, by omega⟩
    obtain ⟨j2, rest2, e2⟩ := next n
    have g7 : topC Z3 = tagW w i ++ (32, j2) :: rest2 := by
      rw [g6, ← e2]
      have : (32, i) :: (tagW w i ++ blk w i n) ++ (32, j) :: rest = (32, j1) :: rest1 := e1
      rw [List.cons_append, List.append_assoc] at this
      exact (List.cons.inj this).2.symm
    obtain ⟨S2, z2, Z4, rfl, k1, k2, k3⟩ := top_split Z3 g7
    rw [cost_app, cost_cons] at hc
    refine back (Y := Z1 ++ z :: (S ++ z' :: S2)) (by simp) (ih (c - 1) (by omega) n (z2 :: Z4) j rest (by omega) ?_ ?_)
    · rw [cost_cons]
      simp at hc
      omega
    · rw [top_some k2, k3, e2]
/-! ### deeds that twice are once -/
theorem fold_once {σ : Type} {g : Nat → σ → σ} {Q : σ → Prop} (hQ : ∀ i s, Q s → Q (g i s)) {R : Nat} : ∀ (I : List Nat) (a : Nat) (s : σ), I.Pairwise (· ≤ ·) → (∀ i ∈ I, a ≤ i ∧ i < R) → (∀ i, a + 1 ≤ i → i < R → i ∈ I) → Q s → g a s = s → (∀ i, i < R → ∀ s, Q s → g i (g i s) = g i s) →
    I.foldl (fun s i => g i s) s = (List.range' (a + 1) (R - (a + 1))).foldl (fun s i => g i s) s
  | [], a, s, _, _, h3, _, _, _ => by
    have : R ≤ a + 1 := Nat.not_lt.mp fun z => by
      have := h3 (a + 1) (Nat.le_refl _) z
      cases this
    rw [Nat.sub_eq_zero_of_le this]
    rfl
  | i :: I, a, s, h1, h2, h3, h4, h5, h6 => by
    have hi := h2 i (List.mem_cons_self ..)
    have h1' := List.pairwise_cons.mp h1
    rw [List.foldl_cons]
    by_cases e : i = a
    · subst e
      rw [h5]
      refine fold_once hQ I i s h1'.2 (fun j hj => h2 j (List.mem_cons_of_mem _ hj)) (fun j hj hR => ?_) h4 h5 h6
      rcases List.mem_cons.mp (h3 j hj hR) with rfl | h
      · omega
      · exact h
    · have e2 : i = a + 1 := by
        rcases List.mem_cons.mp (h3 (a + 1) (Nat.le_refl _) (by omega)) with h | h
        · exact h.symm
        · have := h1'.1 _ h
          omega
      subst e2
      rw [fold_once hQ I (a + 1) (g (a + 1) s) h1'.2 (fun j hj => ⟨h1'.1 j hj, (h2 j (List.mem_cons_of_mem _ hj)).2⟩) (fun j hj hR => ?_) (hQ _ _ h4) (h6 _ hi.2 _ h4) h6]
      · obtain ⟨q, hq⟩ : ∃ q, R - (a + 1) = q + 1 := ⟨R - (a + 1) - 1, by omega⟩
        rw [hq, List.range'_succ, List.foldl_cons, show R - (a + 1 + 1) = q by omega]
      · rcases List.mem_cons.mp (h3 j (by omega) hR) with rfl | h
        · omega
        · exact h
end AP
end
/-! PL5 -/
section
set_option Elab.async false
set_option linter.all false
set_option maxRecDepth 100000
set_option maxHeartbeats 4000000
namespace AP
theorem spl_ne : ∀ (l : List Nat), itemsL l ≠ [] := fun l => by
  rw [items_sgs]
  exact sgs_ne l
theorem items_sp : ∀ (ps : List (List Nat)), (∀ p ∈ ps, ∀ c ∈ p, c ≠ 32) → sgs isB (sp ps) = [] :: ps
  | [], _ => rfl
  | p :: ps, h => by
    have ih := items_sp ps fun q hq => h q (List.mem_cons_of_mem _ hq)
    have hp : ∀ c ∈ p, isB c = false := fun c hc => beq_eq_false_iff_ne.mpr (h p (List.mem_cons_self ..) c hc)
    have e : sp (p :: ps) = 32 :: (p ++ sp ps) := by simp [sp]
    rw [e, sgs_hit (by rfl)]
    cases ps with
    | nil =>
      show _ :: sgs isB (p ++ []) = _
      rw [List.append_nil, sgs_none p hp]
    | cons q qs =>
      have e2 : sp (q :: qs) = 32 :: (q ++ sp qs) := by simp [sp]
      rw [e2, sgs_hit (by rfl)] at ih
      rw [e2, sgs_app (by rfl), sgs_none p hp, (List.cons.inj ih).2]
      rfl
theorem items_join {ps : List (List Nat)} (hne : ps ≠ []) (h : ∀ p ∈ ps, ∀ c ∈ p, c ≠ 32) : sgs isB (TL.joinL [32] ps) = ps := by
  have h1 := items_sp ps h
  rw [sp_join hne, sgs_hit (by rfl)] at h1
  exact (List.cons.inj h1).2
theorem ls_two {ls : List Nat} (hb : ∀ l ∈ ls, 2 ≤ l) {k : Nat} (hk : k < ls.length) : 2 ≤ ls.getD k 0 := by
  rw [List.getD_eq_getElem?_getD, List.getElem?_eq_getElem hk]
  exact hb _ (List.getElem_mem hk)
theorem book_inj {ls : List Nat} (hb : ∀ l ∈ ls, 2 ≤ l) {k j : Nat} (hk : k < ls.length) (hj : j < ls.length) (e : wd (bookW ls) k = wd (bookW ls) j) : k = j := by
  rw [wd_book hk, wd_book hj] at e
  have h1 := ls_two hb hk
  have l1 := congrArg List.length e
  simp only [List.length_replicate] at l1
  have z2 := congrArg (fun l : List Nat => l[0]?) e
  simp only [List.getElem?_replicate] at z2
  rw [if_pos (by omega), if_pos (by omega)] at z2
  have := Option.some.inj z2
  omega
theorem book_at {ls : List Nat} {p : List Nat} (h : p ∈ bookW ls) : ∃ k, k < ls.length ∧ p = wd (bookW ls) k := by
  obtain ⟨k, hk, rfl⟩ := List.mem_map.mp h
  have := List.mem_range.mp hk
  exact ⟨k, this, (wd_book this).symm⟩
theorem wd_mem {ls : List Nat} {k : Nat} (h : k < ls.length) : wd (bookW ls) k ∈ bookW ls := by
  rw [wd_book h]
  exact book_mem h
theorem idx_book {ls : List Nat} (hb : ∀ l ∈ ls, 2 ≤ l) {k : Nat} (hk : k < ls.length) : (bookW ls).idxOf (wd (bookW ls) k) = k := by
  have h1 : (bookW ls).idxOf (wd (bookW ls) k) < (bookW ls).length := List.idxOf_lt_length_of_mem (wd_mem hk)
  have h2 := List.getElem_idxOf h1
  refine book_inj hb (by rw [← book_len]; exact h1) hk ?_
  conv => rhs; rw [← h2]
  show (bookW ls).getD ((bookW ls).idxOf (wd (bookW ls) k)) [] = _
  rw [List.getD_eq_getElem?_getD, List.getElem?_eq_getElem h1]
  rfl
theorem book_free {ls : List Nat} {p : List Nat} (h : p ∈ bookW ls) : ∀ c ∈ p, c ≠ 32 := fun c hc => by
  obtain ⟨k, hk, rfl⟩ := book_at h
  rw [wd_book hk] at hc
  have := List.eq_of_mem_replicate hc
  omega
/-- an item that is a word keeps a sign of its own -/
theorem seg_kept {ls : List Nat} (hb : ∀ l ∈ ls, 2 ≤ l) (h2 : 2 ≤ ls.length) {m : Nat} (hm : ∀ y ∈ costsL (bookW ls), m < y) {T : List Nat} (hT : ∀ p ∈ sgs isB T, p ∈ bookW ls) {C : List Col} (hC : (topC C).map (·.1) = T) (hc : costC C ≤ m) {s : List Col} (hs : s ∈ sgs sepC C) {k : Nat} (hk : k < ls.length) (e : botC s = wd (bookW ls) k) : ∃ c ∈ s, kept c = true := by
  refine Classical.byContradiction fun hn => ?_
  have hn' : ∀ c ∈ s, kept c = false := fun c h => by
    cases h' : kept c with
    | true => exact absurd ⟨c, h, h'⟩ hn
    | false => rfl
  have cs := cost_all hn'
  let kb : Col := ⟨some (32, 0), some 32⟩
  obtain ⟨L, z, z', R, e1, hz, hz'⟩ := sgs_at (p := sepC) (z0 := kb) (zE := kb) rfl rfl hs
  have ec := congrArg costC e1
  rw [cost_cons, cost_app, cost_cons, cost_app, cost_cons, cost_app, cost_cons, if_pos (show kept kb = true from rfl)] at ec
  have eb := bot_len s
  have q2 := ls_two hb hk
  rw [e, wd_book hk, List.length_replicate] at eb
  have hmj : ∀ j, j < ls.length → j ≠ k → m < min (max (ls.getD j 0) (ls.getD k 0)) (ls.getD k 0 + 1) := fun j hj hne => hm _ (costs_mem hb hj hk hne)
  have mq : m ≤ ls.getD k 0 := by
    by_cases k0 : k = 0
    · have := hmj 1 (by omega) (by omega)
      omega
    · have := hmj 0 (by omega) (by omega)
      omega
  have c0 : costC ([] : List Col) = 0 := rfl
  have kz : kept z = true := by
    cases h : kept z with
    | true => rfl
    | false => rw [h] at ec; simp at ec; omega
  have kz' : kept z' = true := by
    cases h : kept z' with
    | true => rfl
    | false => rw [h] at ec; simp at ec; omega
  have ls_ : s.length ≤ m := by omega
  have sep32 : ∀ {c : Col}, kept c = true → sepC c = true → ∃ i, c.t = some (32, i) := fun {c} h1 h2 => by
    obtain ⟨y, i, g1, g2⟩ := kept_at h1
    have : y = 32 := by
      unfold sepC at h2
      rw [g2] at h2
      simpa using h2
    exact ⟨i, by rw [g1, this]⟩
  obtain ⟨i, ti⟩ := sep32 kz hz
  obtain ⟨i', ti'⟩ := sep32 kz' hz'
  have et := congrArg (fun X => (topC X).map (·.1)) e1
  have lhs : (topC (kb :: (C ++ [kb]))).map (·.1) = 32 :: (T ++ [32]) := by
    rw [top_some (x := (32, 0)) rfl, top_app, List.map_cons, List.map_append, hC]
    rfl
  have rhs : (topC (L ++ z :: (s ++ z' :: R))).map (·.1) = (topC L).map (·.1) ++ 32 :: ((topC s).map (·.1) ++ 32 :: (topC R).map (·.1)) := by
    rw [top_app, top_some ti, top_app, top_some ti']
    simp
  have et2 : 32 :: (T ++ [32]) = (topC L).map (·.1) ++ 32 :: ((topC s).map (·.1) ++ 32 :: (topC R).map (·.1)) := by rw [← lhs, ← rhs]; exact et
  obtain ⟨x, xs, ex⟩ := sgs_cases (p := isB) ((topC s).map (·.1))
  have hx : x ∈ sgs isB ((topC s).map (·.1)) := by rw [ex]; exact List.mem_cons_self ..
  have hxT := sgs_mid (p := isB) rfl rfl rfl rfl et2 hx
  obtain ⟨k', hk', rfl⟩ := book_at (hT _ hxT)
  have lx := sgs_len hx
  rw [wd_book hk', List.length_replicate, List.length_map] at lx
  have lt := top_len s
  by_cases hkk : k' = k
  · subst hkk
    have mem := sgs_mem hx (97 + k') (by
      rw [wd_book hk']
      exact List.mem_replicate.mpr ⟨by omega, rfl⟩)
    obtain ⟨y, hy, ey⟩ := List.mem_map.mp mem
    obtain ⟨c, hcs, hct⟩ := List.mem_filterMap.mp hy
    have hkc := hn' c hcs
    have hbn : c.b = none := by
      cases hb : c.b with
      | none => rfl
      | some b =>
        have hbm : b ∈ botC s := List.mem_filterMap.mpr ⟨c, hcs, hb⟩
        rw [e, wd_book hk'] at hbm
        have := List.eq_of_mem_replicate hbm
        unfold kept at hkc
        rw [hct, hb] at hkc
        simp only at hkc
        rw [ey, this] at hkc
        simp at hkc
    have := bot_lt hcs hbn
    rw [e, wd_book hk', List.length_replicate] at this
    omega
  · have := hmj k' hk' hkk
    omega
/-- where an item that is a word comes from -/
def pickC (ls : List Nat) (s : List Col) : Option Nat := if botC s ∈ bookW ls then (s.find? kept).bind fun c => c.t.map (·.2) else none
theorem read_picks {ls : List Nat} (hb : ∀ l ∈ ls, 2 ≤ l) {r : List Nat} (S : List (List Col)) (h : ∀ s ∈ S, ∀ k, k < ls.length → botC s = wd (bookW ls) k → ∃ i, pickC ls s = some i ∧ r.getD i 0 = k) : ((S.map botC).filter (fun p => decide (p ∈ bookW ls))).map (fun p => (bookW ls).idxOf p) = (S.filterMap (pickC ls)).map fun i => r.getD i 0 := by
  induction S with
  | nil => rfl
  | cons s S ih =>
    have ih := ih fun s hs => h s (List.mem_cons_of_mem _ hs)
    rw [List.map_cons, List.filter_cons, List.filterMap_cons]
    by_cases hw : botC s ∈ bookW ls
    · obtain ⟨k, hk, e⟩ := book_at hw
      obtain ⟨i, h1, h2⟩ := h s (List.mem_cons_self ..) k hk e
      rw [if_pos (decide_eq_true hw), h1, List.map_cons, List.map_cons, ih, h2, e, idx_book hb hk]
    · have : pickC ls s = none := if_neg hw
      rw [if_neg (by simpa using hw), this]
      exact ih
theorem range_map (r : List Nat) : (List.range r.length).map (fun i => r.getD i 0) = r := by
  refine List.ext_getElem (by simp) fun i h1 h2 => ?_
  simp [List.getD_eq_getElem?_getD, h2]
theorem damage_any {ls : List Nat} (hb : ∀ l ∈ ls, 2 ≤ l) (h2 : 2 ≤ ls.length) {m : Nat} (hm : ∀ y ∈ costsL (bookW ls), m < y) {r cs : List Nat} (hr : ∀ k ∈ r, k < ls.length) (hne : r ≠ []) (hcs : ∀ k ∈ r, cs.getD k 0 = 2 * m + 1) {es : List Ed} (hes : es.length ≤ m) (hch : chainE (textM (bookW ls) r cs) es) {t : List (List Nat)} {n : Nat} (hM : MOk t n) (ht : t.length = ls.length)
    (once : ∀ k, k < t.length → ∀ s, s < n → (t.getD k []).getD ((t.getD k []).getD s 0) 0 = (t.getD k []).getD s 0) {st : Nat} (hst : st < n) : endM t (readM (bookW ls) (runE (textM (bookW ls) r cs) es)) st = endM t r st := by
  obtain ⟨T, eT⟩ : ∃ T, tagU (bookW ls) (2 * m + 1) r 0 = (32, 0) :: T := by
    cases r with
    | nil => exact absurd rfl hne
    | cons k r => exact ⟨_, rfl⟩
  have hpne : partsM (bookW ls) r cs ≠ [] := by
    cases r with
    | nil => exact absurd rfl hne
    | cons k r =>
      unfold partsM
      rw [List.flatMap_cons, hcs k (List.mem_cons_self ..), List.replicate_succ]
      simp
  have hpm : ∀ p ∈ partsM (bookW ls) r cs, p ∈ bookW ls := fun p hp => by
    obtain ⟨k, hk, rfl⟩ := parts_word hp
    exact wd_mem (hr k hk)
  have hf := tagU_fst (bookW ls) (2 * m + 1) cs r 0 hcs
  rw [sp_join hpne, eT, List.map_cons] at hf
  have hTt : T.map (·.1) = textM (bookW ls) r cs := (List.cons.inj hf).2
  have hitems : sgs isB (textM (bookW ls) r cs) = partsM (bookW ls) r cs := items_join hpne fun p hp => book_free (hpm p hp)
  obtain ⟨C, c1, c2, c3⟩ := run_cols es (colsOf T) (by rw [cols_bot, hTt]; exact hch)
  rw [cols_top] at c1
  rw [cols_bot, hTt] at c2
  rw [cols_cost] at c3
  have hc : costC C ≤ m := by omega
  have tagof : ∀ {c : Col} {y i : Nat}, c ∈ C → c.t = some (y, i) → i < r.length ∧ (y = 32 ∨ y ∈ wd (bookW ls) (r.getD i 0)) := fun {c y i} hc ht => by
    have h1 : (y, i) ∈ topC C := List.mem_filterMap.mpr ⟨c, hc, ht⟩
    rw [c1] at h1
    have h3 := tagU_mem (ws := bookW ls) (N := 2 * m + 1) (r := r) (i := 0) (x := (y, i)) (by rw [eT]; exact List.mem_cons_of_mem _ h1)
    exact ⟨by have := h3.2.1; simpa using this, h3.2.2⟩
  have hri : ∀ {i : Nat}, i < r.length → r.getD i 0 < ls.length := fun {i} hi => by
    rw [List.getD_eq_getElem?_getD, List.getElem?_eq_getElem hi]
    exact hr _ (List.getElem_mem hi)
  have pick_at : ∀ {s : List Col} {i : Nat}, pickC ls s = some i → botC s ∈ bookW ls ∧ ∃ c ∈ s, ∃ y, c.t = some (y, i) ∧ c.b = some y := fun {s i} h => by
    unfold pickC at h
    split at h
    · rename_i hw
      refine ⟨hw, ?_⟩
      cases hf : s.find? kept with
      | none => rw [hf] at h; cases h
      | some c =>
        rw [hf] at h
        obtain ⟨y, j, g1, g2⟩ := kept_at (List.find?_some hf)
        rw [Option.bind_some, g1] at h
        cases h
        exact ⟨c, List.mem_of_find?_eq_some hf, y, g1, g2⟩
    · cases h
  have picks : ∀ s ∈ sgs sepC C, ∀ k, k < ls.length → botC s = wd (bookW ls) k → ∃ i, pickC ls s = some i ∧ i < r.length ∧ r.getD i 0 = k := fun s hs k hk e => by
    obtain ⟨c, hcs, hck⟩ := seg_kept hb h2 hm (T := textM (bookW ls) r cs) (fun p hp => hpm p (by rw [← hitems]; exact hp)) (by rw [c1]; exact hTt) hc hs hk e
    have hw : botC s ∈ bookW ls := by rw [e]; exact wd_mem hk
    obtain ⟨c', hc'⟩ : ∃ c', s.find? kept = some c' := by
      cases hf : s.find? kept with
      | none => exact absurd hck (List.find?_eq_none.mp hf c hcs)
      | some c' => exact ⟨c', rfl⟩
    obtain ⟨y, i, g1, g2⟩ := kept_at (List.find?_some hc')
    have hcs' := List.mem_of_find?_eq_some hc'
    obtain ⟨t1, t2⟩ := tagof (sgs_mem hs c' hcs') g1
    refine ⟨i, ?_, t1, ?_⟩
    · unfold pickC
      rw [if_pos hw, hc', Option.bind_some, g1]
      rfl
    · have hy : y ∈ botC s := List.mem_filterMap.mpr ⟨c', hcs', g2⟩
      rw [e, wd_book hk] at hy
      have ey := List.eq_of_mem_replicate hy
      rcases t2 with t2 | t2
      · omega
      · rw [wd_book (hri t1)] at t2
        have := List.eq_of_mem_replicate t2
        omega
  have hread : readM (bookW ls) (runE (textM (bookW ls) r cs) es) = ((sgs sepC C).filterMap (pickC ls)).map fun i => r.getD i 0 := by
    unfold readM
    rw [items_sgs, ← c2, ← sgs_bot]
    exact read_picks hb _ fun s hs k hk e => by
      obtain ⟨i, h1, _, h3⟩ := picks s hs k hk e
      exact ⟨i, h1, h3⟩
  have hbound : ∀ i ∈ (sgs sepC C).filterMap (pickC ls), i < r.length := fun i hi => by
    obtain ⟨s, hs, he⟩ := List.mem_filterMap.mp hi
    obtain ⟨_, c, hcs, y, g1, _⟩ := pick_at he
    exact (tagof (sgs_mem hs c hcs) g1).1
  have hsort : ((sgs sepC C).filterMap (pickC ls)).Pairwise (· ≤ ·) := by
    have p1 : (topC C).Pairwise fun a b => a.2 ≤ b.2 := by
      have := tagU_sorted (ws := bookW ls) (N := 2 * m + 1) r 0
      rw [eT] at this
      rw [c1]
      exact (List.pairwise_cons.mp this).2
    unfold topC at p1
    rw [List.pairwise_filterMap] at p1
    have p2 := p1.sublist (sgs_sub (p := sepC) C)
    rw [List.pairwise_flatten] at p2
    rw [List.pairwise_filterMap]
    refine p2.2.imp fun {a b} hab i hi j hj => ?_
    obtain ⟨_, c, hc1, y, g1, _⟩ := pick_at hi
    obtain ⟨_, d, hd1, z, g2, _⟩ := pick_at hj
    exact hab c hc1 d hd1 _ g1 _ g2
  have hcov : ∀ i, i < r.length → i ∈ (sgs sepC C).filterMap (pickC ls) := fun i hi => by
    let kb0 : Col := ⟨some (32, 0), some 32⟩
    let kbE : Col := ⟨some (32, r.length), some 32⟩
    obtain ⟨u, v, eU, hv⟩ := tagU_at (ws := bookW ls) (N := 2 * m + 1) (i := 0) (List.getElem?_eq_getElem hi)
    have hv := hv (.inr (by omega))
    have eW : topC (kb0 :: (C ++ [kbE])) = tagU (bookW ls) (2 * m + 1) r 0 ++ [(32, r.length)] := by
      rw [top_some (x := (32, 0)) rfl, top_app, c1, eT]
      rfl
    obtain ⟨j, rest, er⟩ : ∃ j rest, v ++ [(32, r.length)] = (32, j) :: rest := by
      rcases hv with rfl | ⟨j, v', rfl⟩
      · exact ⟨_, _, rfl⟩
      · exact ⟨j, v' ++ [(32, r.length)], rfl⟩
    have eW2 : topC (kb0 :: (C ++ [kbE])) = u ++ (32, 0 + i) :: (tagW (wd (bookW ls) r[i]) (0 + i) ++ (blk (wd (bookW ls) r[i]) (0 + i) (2 * m) ++ (32, j) :: rest)) := by
      rw [eW, eU, ← er]
      show u ++ ((32, 0 + i) :: (tagW _ _ ++ blk _ _ (2 * m)) ++ v) ++ _ = _
      simp
    obtain ⟨Z1, z0, Z2, eZ, k1, k2, k3⟩ := top_split _ eW2
    have ec := congrArg costC eZ
    rw [cost_cons, cost_app, cost_cons, cost_app, if_pos (show kept kb0 = true from rfl), cost_cons, if_pos (show kept kbE = true from rfl)] at ec
    have c0 : costC ([] : List Col) = 0 := rfl
    obtain ⟨A, z, s, z', B, eA, kz, kz', ⟨a, ta⟩, ⟨a', ta'⟩, hk, hs⟩ := cover (w := wd (bookW ls) r[i]) (i := 0 + i) m (2 * m + 1) (z0 :: Z2) j rest (Nat.le_refl _) (by rw [cost_cons]; omega) (by
      rw [top_some k2, k3]
      show _ = (32, 0 + i) :: (tagW _ _ ++ blk _ _ (2 * m)) ++ _
      simp)
    have hsep : ∀ {c : Col} {a : Nat}, kept c = true → c.t = some (32, a) → sepC c = true := fun {c a} h1 h2 => by
      obtain ⟨y, b, g1, g2⟩ := kept_at h1
      rw [h2] at g1
      cases g1
      unfold sepC
      rw [g2]
      rfl
    have hbs : botC s = wd (bookW ls) r[i] := by rw [all_kept_bot hk, hs, tagW_fst]
    have hrl : r[i] < ls.length := hr _ (List.getElem_mem hi)
    have hfree : ∀ c ∈ s, sepC c = false := fun c hc => by
      obtain ⟨y, b, g1, g2⟩ := kept_at (hk c hc)
      have : y ∈ botC s := List.mem_filterMap.mpr ⟨c, hc, g2⟩
      rw [hbs] at this
      have := book_free (wd_mem hrl) y this
      unfold sepC
      rw [g2]
      simpa using this
    have hmem : s ∈ sgs sepC (kb0 :: (C ++ [kbE])) := by
      rw [eZ, eA, ← List.append_assoc, sgs_app (hsep kz ta), sgs_app (hsep kz' ta'), sgs_none s hfree]
      simp
    rw [sgs_hit (by rfl), sgs_app (by rfl)] at hmem
    have hsne : s ≠ [] := by
      rintro rfl
      rw [wd_book hrl] at hbs
      have h2 := ls_two hb hrl
      have := congrArg List.length hbs
      rw [List.length_replicate] at this
      have h0 : (botC ([] : List Col)).length = 0 := rfl
      omega
    have hmem2 : s ∈ sgs sepC C := by
      rcases List.mem_cons.mp hmem with h | h
      · exact absurd h hsne
      · rcases List.mem_append.mp h with h | h
        · exact h
        · exact absurd (List.mem_singleton.mp h) hsne
    refine List.mem_filterMap.mpr ⟨s, hmem2, ?_⟩
    obtain ⟨i', h1, _, _⟩ := picks s hmem2 _ hrl hbs
    rw [h1]
    obtain ⟨_, c, hcs, y, g1, _⟩ := pick_at h1
    have : (y, i') ∈ topC s := List.mem_filterMap.mpr ⟨c, hcs, g1⟩
    rw [hs] at this
    obtain ⟨_, _, e⟩ := List.mem_map.mp this
    have := congrArg Prod.snd e
    simp at this
    rw [this]
  rw [hread]
  generalize (sgs sepC C).filterMap (pickC ls) = I at hbound hsort hcov
  let g := fun (i s : Nat) => (t.getD (r.getD i 0) []).getD s 0
  have hrk : ∀ i, r.getD i 0 < ls.length := fun i => by
    by_cases hi : i < r.length
    · exact hri hi
    · rw [List.getD_eq_getElem?_getD, List.getElem?_eq_none (by omega)]
      show 0 < _
      omega
  have hQ : ∀ i s, s < n → g i s < n := fun i s hs =>
    end_lt hM (r := [r.getD i 0]) (s := s) (fun k hk => by
      rw [List.mem_singleton.mp hk, ht]
      exact hrk i) hs
  have hI : ∀ s, endM t (I.map fun i => r.getD i 0) s = I.foldl (fun s i => g i s) s := fun s => List.foldl_map
  have hR : ∀ s, endM t r s = (List.range' 0 r.length).foldl (fun s i => g i s) s := fun s => by
    conv => lhs; rw [← range_map r]
    rw [← List.range_eq_range']
    exact List.foldl_map
  rw [hI, hR]
  obtain ⟨R, eR⟩ : ∃ R, r.length = R + 1 := ⟨r.length - 1, by
    have := List.length_pos_iff.mpr hne
    omega⟩
  cases I with
  | nil =>
    have := hcov 0 (by omega)
    cases this
  | cons i I =>
    have hs := List.pairwise_cons.mp hsort
    have e0 : i = 0 := by
      rcases List.mem_cons.mp (hcov 0 (by omega)) with h | h
      · exact h.symm
      · have := hs.1 0 h
        omega
    subst e0
    rw [List.foldl_cons, eR, List.range'_succ, List.foldl_cons]
    have := fold_once (g := g) (Q := fun s => s < n) hQ (R := r.length) I 0 (g 0 st) hs.2 (fun i hi => ⟨Nat.zero_le _, hbound i (List.mem_cons_of_mem _ hi)⟩) (fun i h1 hi => by
      rcases List.mem_cons.mp (hcov i hi) with rfl | h
      · omega
      · exact h) (hQ 0 st hst) (once _ (by rw [ht]; exact hrk 0) st hst) (fun i hi s hs => once _ (by rw [ht]; exact hrk i) s hs)
    rw [this, eR]
    rfl
end AP
end
/-! PL6 -/
section
set_option Elab.async false
set_option linter.all false
set_option maxRecDepth 100000
set_option maxHeartbeats 4000000
namespace AP
/-! ### deeds by flags -/
/-- plain deeds: tables of st numbers below st -/
structure Pls (pl : List (List Nat)) (st : Nat) : Prop where
  len : ∀ d ∈ pl, d.length = st
  lt : ∀ d ∈ pl, ∀ x ∈ d, x < st
theorem Pls.mok {pl : List (List Nat)} {st : Nat} (h : Pls pl st) (h1 : 1 ≤ st) (h2 : st ≤ 5) : MOk pl st := ⟨h.len, h.lt, h1, by omega⟩
theorem raise_at {m s : Nat} (h : s < 2 * m) : (raiseF m).getD s 0 = if s % 2 = 0 then s + 1 else s := by
  unfold raiseF
  rw [List.getD_eq_getElem?_getD, List.getElem?_map, List.getElem?_range h]
  rfl
theorem deedF_at {m s : Nat} (d : List Nat) (h : s < 2 * m) : (deedF m d).getD s 0 = if s % 2 = 0 then s else 2 * d.getD (s / 2) 0 := by
  unfold deedF
  rw [List.getD_eq_getElem?_getD, List.getElem?_map, List.getElem?_range h]
  rfl
theorem flags_len (m : Nat) (pl : List (List Nat)) : (flagsL m pl).length = pl.length + 1 := by simp [flagsL]
theorem flags_zero (m : Nat) (pl : List (List Nat)) : (flagsL m pl).getD 0 [] = raiseF m := rfl
theorem flags_succ {m k : Nat} {pl : List (List Nat)} (h : k < pl.length) : (flagsL m pl).getD (k + 1) [] = deedF m (pl.getD k []) := by
  unfold flagsL
  rw [List.getD_eq_getElem?_getD, List.getElem?_cons_succ, List.getElem?_map, List.getElem?_eq_getElem h, List.getD_eq_getElem?_getD, List.getElem?_eq_getElem h]
  rfl
theorem pl_lt {pl : List (List Nat)} {st k s : Nat} (h : Pls pl st) (hk : k < pl.length) (hs : s < st) : (pl.getD k []).getD s 0 < st := by
  have h1 : pl[k] ∈ pl := List.getElem_mem hk
  have h2 : s < pl[k].length := by rw [h.len _ h1]; exact hs
  rw [List.getD_eq_getElem?_getD (l := pl), List.getElem?_eq_getElem hk, Option.getD_some, List.getD_eq_getElem?_getD, List.getElem?_eq_getElem h2]
  exact h.lt _ h1 _ (List.getElem_mem h2)
theorem pl_lt0 {pl : List (List Nat)} {st s : Nat} (h : Pls pl st) {d : List Nat} (hd : d ∈ pl) (hs : s < st) : d.getD s 0 < st := by
  have h2 : s < d.length := by rw [h.len _ hd]; exact hs
  rw [List.getD_eq_getElem?_getD, List.getElem?_eq_getElem h2]
  exact h.lt _ hd _ (List.getElem_mem h2)
theorem flags_mok {pl : List (List Nat)} {st : Nat} (h : Pls pl st) (h1 : 1 ≤ st) (h2 : st ≤ 5) : MOk (flagsL st pl) (2 * st) := by
  refine ⟨fun d hd => ?_, fun d hd x hx => ?_, by omega, by omega⟩
  · rcases List.mem_cons.mp hd with rfl | hd
    · simp [raiseF]
    · obtain ⟨u, hu, rfl⟩ := List.mem_map.mp hd
      simp [deedF]
  · rcases List.mem_cons.mp hd with rfl | hd
    · obtain ⟨s, hs, rfl⟩ := List.mem_map.mp hx
      have := List.mem_range.mp hs
      split <;> omega
    · obtain ⟨u, hu, rfl⟩ := List.mem_map.mp hd
      obtain ⟨s, hs, rfl⟩ := List.mem_map.mp hx
      have := List.mem_range.mp hs
      have h3 := pl_lt0 h hu (s := s / 2) (by omega)
      split <;> omega
theorem flags_once {pl : List (List Nat)} {st : Nat} (h : Pls pl st) {k : Nat} (hk : k < (flagsL st pl).length) {s : Nat} (hs : s < 2 * st) : ((flagsL st pl).getD k []).getD (((flagsL st pl).getD k []).getD s 0) 0 = ((flagsL st pl).getD k []).getD s 0 := by
  cases k with
  | zero =>
    rw [flags_zero, raise_at hs]
    by_cases e : s % 2 = 0
    · rw [if_pos e, raise_at (by omega), if_neg (by omega)]
    · rw [if_neg e, raise_at hs, if_neg e]
  | succ k =>
    rw [flags_len] at hk
    rw [flags_succ (by omega), deedF_at _ hs]
    by_cases e : s % 2 = 0
    · rw [if_pos e, deedF_at _ hs, if_pos e]
    · have h3 := pl_lt h (k := k) (s := s / 2) (by omega) (by omega)
      rw [if_neg e, deedF_at _ (by omega), if_pos (by omega)]
theorem flags_set {pl : List (List Nat)} {st : Nat} (h : Pls pl st) (h1 : 1 ≤ st) {k : Nat} (hk : k < (flagsL st pl).length) : SetAt (flagsL st pl) (2 * st) k 1 := by
  refine ⟨Nat.le_refl _, by omega, fun s hs => ?_, fun j h1 h2 => by omega⟩
  show ((flagsL st pl).getD k []).getD s 0 = ((flagsL st pl).getD k []).getD (((flagsL st pl).getD k []).getD s 0) 0
  rw [flags_once h hk hs]
/-- the row of plain deeds -/
def rowF (ks : List Nat) : List Nat := ks.flatMap fun k => [0, k + 1]
theorem rowF_snoc (ks : List Nat) (k : Nat) : rowF (ks ++ [k]) = rowF ks ++ [0, k + 1] := by simp [rowF]
theorem rowF_len (ks : List Nat) : (rowF ks).length = 2 * ks.length := by
  induction ks with
  | nil => rfl
  | cons k ks ih =>
    show (0 :: (k + 1) :: rowF ks).length = _
    simp [ih]
    omega
theorem rowF_mem {ks : List Nat} {b : Nat} (h : ∀ k ∈ ks, k < b) : ∀ x ∈ rowF ks, x < b + 1 := fun x hx => by
  obtain ⟨k, hk, h2⟩ := List.mem_flatMap.mp hx
  have := h k hk
  simp only [List.mem_cons, List.not_mem_nil, or_false] at h2
  omega
theorem endM_lt {pl : List (List Nat)} {st : Nat} (h : Pls pl st) : ∀ {ks : List Nat} {s : Nat}, (∀ k ∈ ks, k < pl.length) → s < st → endM pl ks s < st
  | [], s, _, hs => hs
  | k :: ks, s, hk, hs => endM_lt h (ks := ks) (fun j hj => hk j (List.mem_cons_of_mem _ hj)) (pl_lt h (hk k (List.mem_cons_self ..)) hs)
theorem flags_row {pl : List (List Nat)} {st : Nat} (h : Pls pl st) : ∀ {ks : List Nat} {s : Nat}, (∀ k ∈ ks, k < pl.length) → s < st → endM (flagsL st pl) (rowF ks) (2 * s) = 2 * endM pl ks s
  | [], s, _, _ => rfl
  | k :: ks, s, hk, hs => by
    have h1 := hk k (List.mem_cons_self ..)
    have h2 := pl_lt h h1 hs
    have ih := flags_row h (ks := ks) (s := (pl.getD k []).getD s 0) (fun j hj => hk j (List.mem_cons_of_mem _ hj)) h2
    show endM (flagsL st pl) (rowF ks) (((flagsL st pl).getD (k + 1) []).getD (((flagsL st pl).getD 0 []).getD (2 * s) 0) 0) = 2 * endM pl ks ((pl.getD k []).getD s 0)
    rw [flags_zero, raise_at (by omega), if_pos (by omega), flags_succ h1, deedF_at _ (by omega), if_neg (by omega), show (2 * s + 1) / 2 = s by omega, ih]
theorem set_alike {t : List (List Nat)} {n k c m : Nat} (h : SetAt t n k 1) (hm : MOk t n) (hk : k < t.length) (hc : 2 * m + 1 ≤ c) : ∀ j, c - 2 * m ≤ j → j < c → ∀ s, s < n → endM t (List.replicate j k) s = endM t (List.replicate c k) s := by
  have once : ∀ s, s < n → ∀ j, 1 ≤ j → endM t (List.replicate j k) s = endM t (List.replicate 1 k) s := fun s hs j hj => by
    obtain ⟨j, rfl⟩ : ∃ i, j = i + 1 := ⟨j - 1, by omega⟩
    clear hj
    induction j with
    | zero => rfl
    | succ j ih =>
      have e : List.replicate (j + 1 + 1) k = List.replicate (j + 1) k ++ [k] := List.replicate_succ'
      have e1 : List.replicate (1 + 1) k = List.replicate 1 k ++ [k] := List.replicate_succ'
      have h3 := h.2.2.1 s hs
      unfold endM at ih h3 ⊢
      rw [e1, List.foldl_append] at h3
      rw [e, List.foldl_append, ih, ← h3]
  intro j h1 h2 s hs
  rw [once s hs j (by omega), once s hs c (by omega)]
end AP
end
/-! PL7 -/
section
set_option Elab.async false
set_option linter.all false
set_option maxRecDepth 100000
set_option maxHeartbeats 4000000
namespace AP
/-! ### books and texts of words of one letter -/
theorem join_one (p : List Nat) : TL.joinL [32] [p] = p := by simp [TL.joinL]
theorem join_pos {q : List Nat} (h : q ≠ []) : ∀ r : List (List Nat), 1 ≤ (TL.joinL [32] (q :: r)).length
  | [] => by
    rw [join_one]
    exact List.length_pos_iff.mpr h
  | p :: r => by
    rw [join_cons2, List.length_append, List.length_cons]
    omega
theorem join_last : ∀ {ps : List (List Nat)}, (∀ p ∈ ps, p ≠ [] ∧ ∀ c ∈ p, c ≠ 32) → ∀ i, (TL.joinL [32] ps)[i]? = some 32 → i + 1 < (TL.joinL [32] ps).length
  | [], _, i, h => by simp [TL.joinL] at h
  | [p], hp, i, h => by
    rw [join_one] at h
    exact absurd rfl ((hp p (List.mem_cons_self ..)).2 32 (List.mem_of_getElem? h))
  | p :: q :: r, hp, i, h => by
    have ih := join_last (ps := q :: r) fun x hx => hp x (List.mem_cons_of_mem _ hx)
    have hpos := join_pos (hp q (List.mem_cons_of_mem _ (List.mem_cons_self ..))).1 r
    rw [join_cons2] at h ⊢
    rw [List.length_append, List.length_cons]
    by_cases h1 : i < p.length
    · rw [List.getElem?_append_left h1] at h
      exact absurd rfl ((hp p (List.mem_cons_self ..)).2 32 (List.mem_of_getElem? h))
    · rw [List.getElem?_append_right (by omega)] at h
      by_cases h2 : i = p.length
      · omega
      · rw [show i - p.length = (i - p.length - 1) + 1 by omega, List.getElem?_cons_succ] at h
        have := ih _ h
        omega
theorem join_mem : ∀ {ps : List (List Nat)} {c : Nat}, c ∈ TL.joinL [32] ps → c = 32 ∨ ∃ p ∈ ps, c ∈ p
  | [], c, h => by simp [TL.joinL] at h
  | [p], c, h => by
    rw [join_one] at h
    exact .inr ⟨p, List.mem_cons_self .., h⟩
  | p :: q :: r, c, h => by
    rw [join_cons2] at h
    rcases List.mem_append.mp h with h | h
    · exact .inr ⟨p, List.mem_cons_self .., h⟩
    · rcases List.mem_cons.mp h with h | h
      · exact .inl h
      · rcases join_mem h with h | ⟨x, hx, h⟩
        · exact .inl h
        · exact .inr ⟨x, List.mem_cons_of_mem _ hx, h⟩
structure Lns (ls : List Nat) : Prop where
  n2 : 2 ≤ ls.length
  n5 : ls.length ≤ 5
  l2 : ∀ l ∈ ls, 2 ≤ l
  l6 : ∀ l ∈ ls, l ≤ 6
section
variable {ls : List Nat}
theorem Lns.at_ (h : Lns ls) {p : List Nat} (hp : p ∈ bookW ls) : ∃ k, k < ls.length ∧ p = List.replicate (ls.getD k 0) (97 + k) ∧ 2 ≤ ls.getD k 0 ∧ ls.getD k 0 ≤ 6 := by
  obtain ⟨k, hk, rfl⟩ := book_at hp
  refine ⟨k, hk, wd_book hk, ls_two h.l2 hk, ?_⟩
  rw [List.getD_eq_getElem?_getD, List.getElem?_eq_getElem hk]
  exact h.l6 _ (List.getElem_mem hk)
theorem Lns.letter (h : Lns ls) {p : List Nat} (hp : p ∈ bookW ls) : ∀ c ∈ p, c ∈ letters := fun c hc => by
  obtain ⟨k, hk, rfl, _⟩ := h.at_ hp
  have := h.n5
  rw [List.eq_of_mem_replicate hc]
  have : k = 0 ∨ k = 1 ∨ k = 2 ∨ k = 3 ∨ k = 4 := by omega
  rcases this with rfl | rfl | rfl | rfl | rfl <;> decide
theorem Lns.nodup (h : Lns ls) : (bookW ls).Nodup := by
  show List.Pairwise (· ≠ ·) ((List.range ls.length).map fun i => List.replicate (ls.getD i 0) (97 + i))
  rw [List.pairwise_map]
  refine List.Pairwise.imp_of_mem (fun {i j} hi hj hij e => ?_) List.pairwise_lt_range
  have hi := List.mem_range.mp hi
  have hj := List.mem_range.mp hj
  have := book_inj h.l2 hi hj (by rw [wd_book hi, wd_book hj]; exact e)
  omega
theorem Lns.le (h : Lns ls) {p : List Nat} (hp : p ∈ bookW ls) : 2 ≤ p.length ∧ p.length ≤ 6 := by
  obtain ⟨k, hk, rfl, h2, h6⟩ := h.at_ hp
  rw [List.length_replicate]
  exact ⟨h2, h6⟩
theorem Lns.bok (h : Lns ls) : BOk (bookW ls) :=
  ⟨fun w hw => h.letter hw, fun w hw => by have := (h.le hw).1; omega, fun w hw => by have := (h.le hw).2; omega, h.nodup, by rw [book_len]; have := h.n2; omega, by rw [book_len]; have := h.n5; omega⟩
theorem Lns.wds (h : Lns ls) : Wds (bookW ls) := ⟨by rw [book_len]; have := h.n5; omega, fun w hw => by have := (h.le hw).2; omega⟩
theorem Lns.costs (h : Lns ls) : ∀ y ∈ costsL (bookW ls), 2 ≤ y := fun y hy => by
  obtain ⟨w, hw, h1⟩ := List.mem_flatMap.mp hy
  obtain ⟨o, ho, rfl⟩ := List.mem_map.mp h1
  have h2 := (h.le hw).1
  have h3 := (h.le (List.mem_filter.mp ho).1).1
  omega
theorem least_of : ∀ {l : List Nat}, l ≠ [] → ∃ m ∈ l, ∀ y ∈ l, m ≤ y
  | [], h => absurd rfl h
  | [x], _ => ⟨x, List.mem_cons_self .., fun y hy => by rw [List.mem_singleton.mp hy]; exact Nat.le_refl _⟩
  | x :: z :: l, _ => by
    obtain ⟨m, h1, h2⟩ := least_of (l := z :: l) (by simp)
    by_cases h : x ≤ m
    · refine ⟨x, List.mem_cons_self .., fun y hy => ?_⟩
      rcases List.mem_cons.mp hy with rfl | hy
      · exact Nat.le_refl _
      · exact Nat.le_trans h (h2 y hy)
    · refine ⟨m, List.mem_cons_of_mem _ h1, fun y hy => ?_⟩
      rcases List.mem_cons.mp hy with rfl | hy
      · omega
      · exact h2 y hy
theorem Lns.price (h : Lns ls) : ∃ m, m ∈ costsL (bookW ls) ∧ (∀ y ∈ costsL (bookW ls), m ≤ y) ∧ 2 ≤ m := by
  have hn := h.n2
  have h1 := costs_mem (ls := ls) h.l2 (i := 0) (j := 1) (by omega) (by omega) (by omega)
  obtain ⟨m, h2, h3⟩ := least_of (l := costsL (bookW ls)) fun z => by
    rw [z] at h1
    cases h1
  exact ⟨m, h2, h3, h.costs m h2⟩
theorem Lns.parts (h : Lns ls) {r cs : List Nat} (hr : ∀ k ∈ r, k < ls.length) : ∀ p ∈ partsM (bookW ls) r cs, p ∈ bookW ls := fun p hp => by
  obtain ⟨k, hk, rfl⟩ := parts_word hp
  exact wd_mem (hr k hk)
theorem Lns.text_last (h : Lns ls) {r cs : List Nat} (hr : ∀ k ∈ r, k < ls.length) : ∀ i, (textM (bookW ls) r cs)[i]? = some 32 → i + 1 < (textM (bookW ls) r cs).length :=
  join_last fun p hp => ⟨fun z => by have := (h.le (h.parts hr p hp)).1; rw [z] at this; simp at this, book_free (h.parts hr p hp)⟩
theorem Lns.text_sign (h : Lns ls) {r cs : List Nat} (hr : ∀ k ∈ r, k < ls.length) : ∀ c ∈ textM (bookW ls) r cs, sign c := fun c hc => by
  rcases join_mem hc with h1 | ⟨p, hp, h1⟩
  · exact .inr h1
  · exact .inl (h.letter (h.parts hr p hp) c h1)
theorem Lns.tok (h : Lns ls) {r cs : List Nat} (hr : ∀ k ∈ r, k < ls.length) (hc : ∀ c ∈ cs, c ≤ 12) (hl : cs.length = ls.length) (hn : r.length ≤ 1000) : TOk (bookW ls) r cs :=
  ⟨fun w hw => by have := (h.le hw).2; omega, hc, fun k hk => by rw [book_len]; exact hr k hk, by rw [book_len]; exact hl, hn⟩
theorem Lns.ask (h : Lns ls) {t : List (List Nat)} {n m c : Nat} (hm : MOk t n) (ht : t.length = ls.length) (hc : m < c) (hcs : ∀ y ∈ costsL (bookW ls), c ≤ y) (m1 : 1 ≤ m) (m3 : m ≤ 3) {l : List Nat} (hl : l.length = ls.length) (hlc : ∀ k ∈ l, 2 * m + 1 ≤ k ∧ k ≤ 12) : Ask (bookW ls) t n l m :=
  ⟨hm, by rw [book_len, ht], h.wds, fun z => by have := h.n2; rw [z] at hl; simp at hl; omega, by rw [hl, ht], hlc, m1, m3, price_gt h.n2 h.l2 hcs hc⟩
end
end AP
end
/-! AP41 -/
section
set_option Elab.async false
set_option linter.all false
set_option maxRecDepth 100000
set_option maxHeartbeats 4000000
namespace AP
open PySem PySem.Spec PyProof.Rows L2 AL AZ
section
variable {P : Program} {w : World} {K : PySem.W.Frag} {mg : Str → Option Value} {base : Heap}
/-- c + a digit -/
theorem ef_plus {X : Cx} {δ : De} {e : Expr} {a : Addr} {i n j many c k0 : Nat} {p hp pos p1 p2 : Pos} {h : Str} (Z : Zc X.K X.mg) (hr : Room j X.A) (he : ED X δ e (.int (many : Int))) (h1 : 1 ≤ many) (h2 : many ≤ 100000) (hn : n ≤ 1000000) (hk : 1 ≤ j := by decide) (hδ : δ[i]? = some (some (.hb a n)) := by rfl) (hN : X.N[i]? = some h := by rfl) (hg : Gl X "_law_tide" := by rfl)
    (hv : Vis X.env.scope h := by first | exact Or.inl rfl | exact Or.inr (Or.inl rfl) | exact Or.inr (Or.inr rfl)) (hdb2 : (h == ("__debug__" : Str)) = false := by decide) (hcd : (h == ("__classdict__" : Str)) = false := by decide)
    (hs : starEach (.Name h hp :: [e]) X.env = (false, eval (.Name h hp) X.env) :: starEach [e] X.env := by rfl) (hpl : (backTo pos (starEach [e] X.env)).any (·.1) = false := by rfl) (hs2 : starEach [e] X.env = (false, eval e X.env) :: starEach [] X.env := by rfl) :
    EF (hbF a) i X δ (.BinOp (.Constant (.int (c : Int)) k0 p1) .Add (.Call (.Name "_law_tide" p) [.Name h hp, e] [] pos) p2) (fun d n' => n' = n + 1 ∧ ∃ k : Nat, k < many ∧ d = .int ((c + k : Nat) : Int)) := by
  refine ef_bin (F := hbF a) (fun d n' => d = .int (c : Int) ∧ n' = n) (ef_ed (F := hbF a) n ed_int ⟨rfl, rfl⟩ hδ) (fun _ _ d n' => n' = n + 1 ∧ ∃ k : Nat, k < many ∧ d = .int (k : Int)) (fun d n' ⟨e1, e2⟩ => ?_) (fun d n1 d' n2 ⟨e1, e2⟩ ⟨e3, k, hk, e4⟩ => ?_)
  · subst e1 e2
    rw [set_self hδ]
    exact ef_tide Z hr he h1 h2 hn (fun k hk => ⟨rfl, k, hk, rfl⟩) hk hδ hN hg hv hdb2 hcd hs hpl hs2
  · subst e1 e2 e3 e4
    exact ⟨_, opd_add, rfl, k, hk, by rw [Int.natCast_add]⟩
def fst2 : Dt → Dt
  | .tup [x, _] => x
  | _ => .non
def snd2 : Dt → Dt
  | .tup [_, x] => x
  | _ => .non
theorem rep_getD {n c k : Nat} (h : k < n) : (List.replicate n c).getD k 0 = c := by
  rw [List.getD_eq_getElem?_getD, List.getElem?_replicate, if_pos h]
  rfl
theorem rep_ntl (n c : Nat) : Dt.lst (List.replicate n [Dt.int (c : Int)]).flatten = Dt.lst (ntl (List.replicate n c)) := by
  congr 1
  unfold ntl
  rw [List.map_replicate]
  induction n with
  | zero => rfl
  | succ n ih =>
    rw [List.replicate_succ, List.flatten_cons, ih, List.replicate_succ]
    rfl
theorem rep_map (n c m : Nat) : (List.replicate n c).map (fun k => 2 * m + k) = List.replicate n (2 * m + c) := by
  rw [List.map_replicate]
theorem h_flags_right (Ze : Ze K mg) (hP : Pf P fileS) : FnH P w K mg base 12 "_law_flags_right" (fun n ds Φ => n ≤ 1000 ∧ ds = [] ∧ ∀ n', n' ≤ n + 1000 → Φ (.bl true) n') 1 := by
  have Z := Ze.d.z
  refine Z.mkH_L_flags_right fun cdv A outer s H E a n ds Φ hr ⟨hn, e, hΦ⟩ => ?_
  subst e
  have hnd := S_L_flags_right.nd
  refine sds_parmkF (F := hbF a) (i := 0) (x0 := n) 1 2 (Φ := fun d n' => n' = n + 1 ∧ ∃ k : Nat, k < 5 ∧ d = .int ((1 + k : Nat) : Int)) (ef_plus (many := 5) (c := 1) Z hr ed_int (by decide) (by decide) (by omega)) ?_ hnd
  rintro d0 n0 ⟨e1, k0, hk0, e2⟩
  subst e1 e2
  obtain ⟨st, hst⟩ : ∃ st, st = 1 + k0 := ⟨_, rfl⟩
  rw [← hst]
  have st1 : 1 ≤ st := by omega
  have st5 : st ≤ 5 := by omega
  clear hst hk0
  refine sds_cons (M := fun δ' => ∃ (n' : Nat) (pl : List (List Nat)) (o : Option Sd), n' ≤ n + 202 ∧ 1 ≤ pl.length ∧ pl.length ≤ 2 ∧ Pls pl st ∧ δ' = [some (.hb a n'), some (.mu (deedsL pl)), some (.sh (.int (st : Nat))), o, none, none, none, none, none, none, none, none, none, none, none, none, none])
    (sd_forF (F := hbF a) (i := 0) (x0 := n + 1) (vs := [3]) (δt := fun δ' d => δ'.set 3 (some (.sh d))) (Θ := fun ds n' => n' = n + 2 ∧ ∃ c : Nat, 1 ≤ c ∧ c ≤ 2 ∧ ds = rangeD 0 c)
      (fun ds i δ' => (∃ c : Nat, 1 ≤ c ∧ c ≤ 2 ∧ ds = rangeD 0 c) ∧ ∃ (pl : List (List Nat)) (o : Option Sd), pl.length = i ∧ Pls pl st ∧ δ' = [some (.hb a (n + 2 + 100 * i)), some (.mu (deedsL pl)), some (.sh (.int (st : Nat))), o, none, none, none, none, none, none, none, none, none, none, none, none, none])
      (idf_range1 (F := hbF a) _ (ef_plus (n := n + 1) (many := 2) (c := 1) Z hr ed_int (by decide) (by decide) (by omega)) (fun d n' ⟨e1, k, hk, e2⟩ => ⟨1 + k, e2, by omega, e1, 1 + k, by omega, by omega, rfl⟩) Z.f_range) ?_ ?_ ?_ ?_) ?_
  · rintro ds n' ⟨e1, hc⟩
    subst e1
    exact ⟨hc, [], none, rfl, ⟨(fun _ z => nomatch z), (fun _ z => nomatch z)⟩, rfl⟩
  · rintro ds i d δ' hd ⟨_, pl, o, _, _, rfl⟩
    exact gd_name 3 hnd
  · rintro ds i d δ' hd ⟨⟨c, hc1, hc2, rfl⟩, pl, o, hpl, hp, rfl⟩
    have hi : i < c := by
      have := (List.getElem?_eq_some_iff.mp hd).1
      rw [rangeD_len] at this
      exact this
    refine sds_appF (F := hbF a) (i := 0) (x0 := n + 2 + 100 * i) (ds := deedsL pl) 1 (Φ := fun d n' => n' = n + 2 + 100 * i + 100 ∧ ∃ l : List Nat, l.length = st ∧ (∀ x ∈ l, x < st) ∧ d = .lst (ntl l)) (ef_callH (h_deed Z) hr (Ψ := fun ds n' => ds = [.int (st : Nat)] ∧ n' = n + 2 + 100 * i) (eaf_ea (F := hbF a) (n + 2 + 100 * i) (ea_cons (ed_var 2) ea_nil) ⟨rfl, rfl⟩) (fun ds n' ⟨e1, e2⟩ => by
      subst e1 e2
      exact ⟨rfl, st, st1, st5, by omega, rfl, fun l h1 h2 => ⟨rfl, l, h1, h2, rfl⟩⟩)) (by simp [deedsL]; omega) ?_
    rintro d n' ⟨e1, l, h1, h2, e2⟩
    subst e1 e2
    refine sds_nil ⟨⟨c, hc1, hc2, rfl⟩, pl ++ [l], some (.sh d), by simp [hpl], ⟨fun u hu => ?_, fun u hu => ?_⟩, ?_⟩
    · rcases List.mem_append.mp hu with hu | hu
      · exact hp.len u hu
      · rw [List.mem_singleton.mp hu]; exact h1
    · rcases List.mem_append.mp hu with hu | hu
      · exact hp.lt u hu
      · rw [List.mem_singleton.mp hu]; exact h2
    · unfold deedsL
      rw [List.map_append]
      rfl
  · rintro ds δ' ⟨⟨c, hc1, hc2, rfl⟩, pl, o, hpl, hp, rfl⟩
    rw [rangeD_len] at hpl ⊢
    have hpl : pl.length = c := hpl
    exact ⟨_, pl, o, by show n + 2 + 100 * c ≤ _; omega, by omega, by omega, hp, rfl⟩
  rintro δ' ⟨n1, pl, o3, hn1, pl1, pl2, hp, rfl⟩
  refine sds_frz (ds := deedsL pl) 1 ?_
  have hdl : (deedsL pl).length = pl.length := by simp [deedsL]
  refine sds_par2F (F := hbF a) (i := 0) (x0 := n1) 4 5 (Θ := fun ds n' => n' = n1 + 2 * (pl.length + 1) ∧ ∃ ls, Lns ls ∧ ls.length = pl.length + 1 ∧ ds = [.lst (wordsD (bookW ls)), .lst (deedsL (flagsL st pl))])
    (eaf_cons (fun d n' => n' = n1 + 2 * (pl.length + 1) ∧ ∃ ls, Lns ls ∧ ls.length = pl.length + 1 ∧ d = .lst (wordsD (bookW ls))) (ef_callH (h_book Z) hr (Ψ := fun ds n' => ds = [.int ((pl.length + 1 : Nat) : Int)] ∧ n' = n1) (eaf_ea (F := hbF a) n1 (ea_cons (ed_is (ed_op (ed_cb (ea_cons (ed_var 1) ea_nil) cld_lenL Z.f_len) ed_int opd_add) (by rw [hdl]; rfl)) ea_nil) ⟨rfl, rfl⟩) (fun ds n' ⟨e1, e2⟩ => by
      subst e1 e2
      exact ⟨rfl, pl.length + 1, by omega, by omega, rfl, fun ls h1 h2 => ⟨rfl, ls, ⟨by omega, by omega, fun l hl => (h2 l hl).1, fun l hl => (h2 l hl).2⟩, h1, rfl⟩⟩)) fun d n' ⟨e1, ls, L, hls, e2⟩ => by
      subst e1 e2
      exact eaf_ea (F := hbF a) (n1 + 2 * (pl.length + 1)) (ea_cons (ed_call (p_L_flags Z) hr (ea_cons (ed_var (d := .lst (deedsL pl)) 1) ea_nil) ⟨pl, st, pl1, by omega, by omega, hp.len, rfl, rfl⟩) ea_nil) ⟨rfl, ls, L, hls, rfl⟩) ?_ hnd
  rintro ds n' ⟨e1, ls, L, hls, e2⟩
  subst e1 e2
  refine ⟨_, _, rfl, ?_⟩
  obtain ⟨m0, hm1, hm2, hm3⟩ := L.price
  have hbl := book_len ls
  have hfl := flags_len st pl
  have mok := flags_mok hp st1 st5
  obtain ⟨M, hM⟩ : ∃ M, M = min 3 (m0 - 1) := ⟨_, rfl⟩
  refine sds_asg (d := .tup [machD K (bookW ls) (flagsL st pl) (2 * st), .int (M : Nat)]) (vs := [6, 7]) (ed_tup (ea_cons (ed_make (m_Machine Z) hr (ea_cons (ed_make (m_Book Z) hr (ea_cons (ed_var 4) ea_nil) ⟨bookW ls, L.bok, rfl, rfl, rfl⟩) (ea_cons (ed_var 5) ea_nil)) ⟨bookW ls, flagsL st pl, 2 * st, mok, by omega, by omega, by omega, rfl, rfl, rfl⟩)
    (ea_cons (ed_is (ed_cb (ea_cons ed_int (ea_cons (ed_op (ed_call (p_L_price Z) hr (ea_cons (ed_var 4) ea_nil) ⟨bookW ls, m0, by rw [hbl]; omega, L.wds.l, hm1, hm2, rfl, rfl⟩) ed_int opd_sub) ea_nil)) cld_min2 Z.f_min) ?_) ea_nil))) (gd_tup (gds_cons (gd_name 6 hnd) (gds_cons (gd_name 7 hnd) gds_nil))) ?_
  · congr 1
    split <;> omega
  have hM1 : 1 ≤ M := by omega
  have hM3 : M ≤ 3 := by omega
  have hMm : M < m0 := by omega
  clear hM
  generalize hn2e : n1 + 2 * (pl.length + 1) = n2
  have hn2 : n2 ≤ n + 208 := by omega
  clear hn2e
  refine sds_setF (F := hbF a) (i := 0) (x0 := n2) 7 (ef_plus (n := n2) (c := 1) Z hr (ed_var 7) hM1 (by omega) (by omega)) ?_ hnd
  rintro d n' ⟨e1, k1, hk1, e2⟩
  subst e1 e2
  obtain ⟨m, hm⟩ : ∃ m, m = 1 + k1 := ⟨_, rfl⟩
  rw [← hm]
  have m1 : 1 ≤ m := by omega
  have m3 : m ≤ 3 := by omega
  have mm : m < m0 := by omega
  clear hm hk1
  have hset : ∀ k, k < (flagsL st pl).length → SetAt (flagsL st pl) (2 * st) k 1 := fun k hk => flags_set hp st1 hk
  have hwl : (wordsD (bookW ls)).length = ls.length := by simp [wordsD, hbl]
  have hll := L.n5
  have hmn := made_nil L.l2 hm2 mm
  refine sds_ifF (et_w (ew_or (k := false) (k' := false) (et_cmp (ed_is (ed_lcM 8 (ds := ntl (List.range ls.length)) (fun _ => .int (1 : Nat)) (id_is (id_range1 (ea_cons (ed_cb (ea_cons (ed_var (d := .lst (wordsD (bookW ls))) 4) ea_nil) cld_lenL Z.f_len) ea_nil) (by rw [hwl]; omega) Z.f_range) (by rw [hwl, Int.toNat_natCast]; exact range_nat _)) (blkOk_by (by kernel_rfl)) hnd (fun s H C cl fp d hd => ?_) (by rw [ntl_len]; simp; omega)) (show _ = Dt.lst (ntl (List.replicate ls.length 1)) from ?_))
    (ed_is (ed_op (ed_lst (ea_cons ed_int ea_nil)) (ed_cb (ea_cons (ed_var (d := .lst (wordsD (bookW ls))) 4) ea_nil) cld_lenL Z.f_len) (opd_rep (by rw [hwl]; omega) (by rw [hwl]; omega) (by rw [hwl]; simp; exact sl_le (by omega)))) (show _ = Dt.lst (ntl (List.replicate ls.length 1)) from ?_)) (opd_b (opd_neL hr.units) (by simp)))
    fun _ => ew_or1 (et_cmp (ed_call (p_judged_machine Ze.d hP) hr (ea_cons (ed_var (d := machD K (bookW ls) (flagsL st pl) (2 * st)) 6) (ea_cons (ed_var (d := .int (m : Nat)) 7) ea_nil)) ⟨bookW ls, flagsL st pl, 2 * st, m, mok, L.bok, L.wds, hset, by omega, m1, m3, hmn, rfl, rfl⟩) (ed_make0 (m_Lets Ze.d hP) hr ⟨rfl, rfl, rfl⟩) (opd_neV Z Ze.l (same_lets Ze) hr)))) ?_
  · obtain ⟨k, hk, rfl⟩ := ntl_mem hd
    have hk := List.mem_range.mp hk
    exact ed_call (p_settles Z) hr (ea_cons (ed_var (d := machD K (bookW ls) (flagsL st pl) (2 * st)) 6) (ea_cons (ed_var (d := .int (k : Nat)) 8) ea_nil)) ⟨bookW ls, flagsL st pl, 2 * st, k, 1, mok, by omega, hset k (by omega), rfl, rfl⟩
  · unfold ntl
    rw [List.map_map, List.map_replicate]
    congr 1
    apply List.ext_getElem
    · simp
    · intro i h1 h2
      simp
  · rw [hwl, Int.toNat_natCast]
    exact rep_ntl ls.length 1
  have hcl : (List.replicate ls.length (2 * m + 1)).length = ls.length := List.length_replicate
  refine sds_set 9 (d := .lst (ntl (List.replicate ls.length (2 * m + 1)))) (ed_is (ed_op (ed_lst (ea_cons (ed_is (ed_op (ed_op ed_int (ed_var (d := .int (m : Nat)) 7) (opd_mul (.inl ⟨by decide, by decide⟩))) ed_int opd_add) (show _ = Dt.int ((2 * m + 1 : Nat) : Int) from rfl)) ea_nil)) (ed_cb (ea_cons (ed_var (d := .lst (wordsD (bookW ls))) 4) ea_nil) cld_lenL Z.f_len) (opd_rep (by rw [hwl]; omega) (by rw [hwl]; omega) (by rw [hwl]; simp; exact sl_le (by omega)))) ?_) ?_ hnd
  · rw [hwl, Int.toNat_natCast]
    exact rep_ntl ls.length (2 * m + 1)
  have hsets : Sets (flagsL st pl) (2 * st) (List.replicate ls.length 1) := ⟨by rw [List.length_replicate]; omega, fun k hk => by
    rw [rep_getD (by omega)]
    exact hset k hk⟩
  have hask := L.ask mok (by omega) mm hm2 m1 m3 (l := List.replicate ls.length (2 * m + 1)) hcl fun k hk => by
    rw [List.eq_of_mem_replicate hk]
    omega
  refine sds_ifF (et_w (ew_or (k := false) (k' := false) (et_cmp (ed_call (p_copies_for Ze.d hP) hr (ea_cons (ed_var (d := machD K (bookW ls) (flagsL st pl) (2 * st)) 6) (ea_cons (ed_var (d := .int (m : Nat)) 7) ea_nil)) ⟨bookW ls, flagsL st pl, 2 * st, List.replicate ls.length 1, m, mok, hsets, by omega, m1, by omega, rfl, rfl⟩)
      (ed_is (ed_make (m_Copies Ze.d hP) hr (ea_cons (ed_var (d := .lst (ntl (List.replicate ls.length (2 * m + 1)))) 9) ea_nil) ⟨List.replicate ls.length (2 * m + 1), by rw [hcl]; omega, rfl, rfl, rfl⟩) (show _ = copiesV K ((List.replicate ls.length 1).map fun k => 2 * m + k) by rw [rep_map]; rfl)) (opd_neV Z Ze.c (same_copies Ze _) hr))
    fun _ => ew_or1 (et_cmp (ed_call (p_judged_text Ze.d hP) hr (ea_cons (ed_var (d := machD K (bookW ls) (flagsL st pl) (2 * st)) 6) (ea_cons (ed_var (d := .lst (ntl (List.replicate ls.length (2 * m + 1)))) 9) (ea_cons (ed_var (d := .int (m : Nat)) 7) ea_nil))) ⟨bookW ls, flagsL st pl, 2 * st, List.replicate ls.length (2 * m + 1), m, hask, rfl, .inl ⟨fun k hk => ?_, rfl⟩⟩) (ed_make0 (m_Stands Ze.d hP) hr ⟨rfl, rfl, rfl⟩) (opd_neV Z Ze.s (same_stands Ze) hr)))) ?_
  · rw [hcl] at hk
    rw [rep_getD hk]
    exact set_alike (hset k (by omega)) mok (by omega) (Nat.le_refl _)
  obtain ⟨cps, hcps⟩ : ∃ cps, cps = List.replicate ls.length (2 * m + 1) := ⟨_, rfl⟩
  rw [← hcps]
  have hcp12 : ∀ c ∈ cps, c ≤ 12 := fun c hc => by
    rw [hcps] at hc
    rw [List.eq_of_mem_replicate hc]
    omega
  have hcpl : cps.length = ls.length := by rw [hcps, hcl]
  have hcpg : ∀ k, k < ls.length → cps.getD k 0 = 2 * m + 1 := fun k hk => by rw [hcps, rep_getD hk]
  clear hcps hask hsets
  generalize hn3e : n2 + 1 = n3
  have hn3 : n3 ≤ n + 209 := by omega
  clear hn3e
  let I : Nat → De → Prop := fun i δ' => ∃ (n' : Nat) (o3 o8 o10 o11 o12 o13 o14 o15 o16 : Option Sd), n' ≤ n3 + 57 * i ∧ δ' = [some (.hb a n'), some (.sh (.lst (deedsL pl))), some (.sh (.int (st : Nat))), o3, some (.sh (.lst (wordsD (bookW ls)))), some (.sh (.lst (deedsL (flagsL st pl)))), some (.sh (machD K (bookW ls) (flagsL st pl) (2 * st))), some (.sh (.int (m : Nat))), o8, some (.sh (.lst (ntl cps))), o10, o11, o12, o13, o14, o15, o16]
  refine sds_cons (M := I 4) (sd_for (ds := rangeD 0 4) (vs := [10]) (δt := fun i δ' => δ'.set 10 (some (.sh ((rangeD 0 4).getD i .non)))) I (id_is (id_range1 (ea_cons ed_int ea_nil) (by decide) Z.f_range) rfl) ⟨n3, _, _, _, _, _, _, _, _, _, Nat.le_refl _, rfl⟩ ?_ ?_ ?_) ?_
  · rintro i d δ' hd ⟨n', o3, o8, o10, o11, o12, o13, o14, o15, o16, _, rfl⟩
    rw [getD_of hd]
    exact gd_name 10 hnd
  · rintro i d δ' hd ⟨n', o3, o8, o10, o11, o12, o13, o14, o15, o16, hn', rfl⟩
    rw [getD_of hd]
    have hi4 : i < 4 := by
      have := (List.getElem?_eq_some_iff.mp hd).1
      rw [rangeD_len] at this
      exact this
    have hn'b : n' ≤ n + 500 := by omega
    refine sds_par3F (F := hbF a) (i := 0) (x0 := n') 11 12 13 (Θ := fun ds n2 => n2 = n' + 1 ∧ ∃ k : Nat, k < st ∧ ds = [.lst [], .int (k : Nat), .int 0])
      (eaf_cons (fun d n2 => n2 = n' ∧ d = .lst []) (ef_ed (F := hbF a) n' (ed_lst ea_nil) ⟨rfl, rfl⟩) fun d n2 ⟨e1, e2⟩ => by
        subst e1 e2
        exact eaf_cons (fun d n5 => n5 = n2 + 1 ∧ ∃ k : Nat, k < st ∧ d = .int (k : Nat)) (ef_tide (n := n2) Z hr (ed_var 2) st1 (by omega) (by omega) fun k hk => ⟨rfl, k, hk, rfl⟩) fun d n5 ⟨e1, k, hk, e2⟩ => by
          subst e1 e2
          exact eaf_ea (F := hbF a) (n2 + 1) (ea_cons ed_int ea_nil) ⟨rfl, k, hk, rfl⟩) ?_ hnd
    rintro ds n2 ⟨e1, s0, hs0, e2⟩
    subst e1 e2
    refine ⟨_, _, _, rfl, ?_⟩
    refine sds_set 13 (ed_var (d := .int (s0 : Nat)) 12) ?_ hnd
    refine sds_cons (M := fun δ' => ∃ (n2 : Nat) (ks : List Nat) (o3 o8 o14 o15 o16 : Option Sd), n2 ≤ n' + 7 ∧ 1 ≤ ks.length ∧ ks.length ≤ 5 ∧ (∀ k ∈ ks, k < pl.length) ∧ δ' = [some (.hb a n2), some (.sh (.lst (deedsL pl))), some (.sh (.int (st : Nat))), o3, some (.sh (.lst (wordsD (bookW ls)))), some (.sh (.lst (deedsL (flagsL st pl)))), some (.sh (machD K (bookW ls) (flagsL st pl) (2 * st))), some (.sh (.int (m : Nat))), o8, some (.sh (.lst (ntl cps))), some (.sh d), some (.sh (.lst (ntl (rowF ks)))), some (.sh (.int (endM pl ks s0 : Nat))), some (.sh (.int (s0 : Nat))), o14, o15, o16])
      (sd_forF (F := hbF a) (i := 0) (x0 := n' + 1) (vs := [3]) (δt := fun δ' d => δ'.set 3 (some (.sh d))) (Θ := fun ds n2 => n2 = n' + 2 ∧ ∃ c : Nat, 1 ≤ c ∧ c ≤ 5 ∧ ds = rangeD 0 c)
        (fun ds i δ' => (∃ c : Nat, 1 ≤ c ∧ c ≤ 5 ∧ ds = rangeD 0 c) ∧ ∃ (ks : List Nat) (o3 o8 o14 o15 o16 : Option Sd), ks.length = i ∧ (∀ k ∈ ks, k < pl.length) ∧ δ' = [some (.hb a (n' + 2 + i)), some (.sh (.lst (deedsL pl))), some (.sh (.int (st : Nat))), o3, some (.sh (.lst (wordsD (bookW ls)))), some (.sh (.lst (deedsL (flagsL st pl)))), some (.sh (machD K (bookW ls) (flagsL st pl) (2 * st))), some (.sh (.int (m : Nat))), o8, some (.sh (.lst (ntl cps))), some (.sh d), some (.sh (.lst (ntl (rowF ks)))), some (.sh (.int (endM pl ks s0 : Nat))), some (.sh (.int (s0 : Nat))), o14, o15, o16])
        (idf_range1 (F := hbF a) _ (ef_plus (n := n' + 1) (many := 5) (c := 1) Z hr ed_int (by decide) (by decide) (by omega)) (fun d n' ⟨e1, k, hk, e2⟩ => ⟨1 + k, e2, by omega, e1, 1 + k, by omega, by omega, rfl⟩) Z.f_range) ?_ ?_ ?_ ?_) ?_
    · rintro ds n2 ⟨e1, hc⟩
      subst e1
      exact ⟨hc, [], _, _, _, _, _, rfl, (fun _ z => nomatch z), rfl⟩
    · rintro ds i d' δ' hd' ⟨_, ks, o3, o8, o14, o15, o16, _, _, rfl⟩
      exact gd_name 3 hnd
    · rintro ds i d' δ' hd' ⟨⟨c, hc1, hc2, rfl⟩, ks, o3, o8, o14, o15, o16, hkl, hks, rfl⟩
      have hi : i < c := by
        have := (List.getElem?_eq_some_iff.mp hd').1
        rw [rangeD_len] at this
        exact this
      refine sds_setF (F := hbF a) (i := 0) (x0 := n' + 2 + i) 8 (Φ := fun d n2 => n2 = n' + 2 + i + 1 ∧ ∃ k : Nat, k < pl.length ∧ d = .int (k : Nat)) (ef_tide (n := n' + 2 + i) (many := pl.length) Z hr (ed_is (ed_cb (ea_cons (ed_var (d := .lst (deedsL pl)) 1) ea_nil) cld_lenL Z.f_len) (by rw [hdl])) pl1 (by omega) (by omega) fun k hk => ⟨rfl, k, hk, rfl⟩) ?_ hnd
      rintro d2 n2 ⟨e1, k, hk, e2⟩
      subst e1 e2
      have hrl := rowF_len ks
      have hnow := endM_lt hp hks hs0
      have hk0 : pl[k] ∈ pl := List.getElem_mem hk
      have hk2 : endM pl ks s0 < pl[k].length := by rw [hp.len _ hk0]; exact hnow
      refine sds_par2 11 12 (es_sh (d := .lst (ntl (rowF (ks ++ [k])))) (ed_is (ed_op (ed_var (d := .lst (ntl (rowF ks))) 11) (ed_lst (ea_cons ed_int (ea_cons (ed_op ed_int (ed_var (d := .int (k : Nat)) 8) opd_add) ea_nil))) (opd_cat (by rw [ntl_len]; simp; exact sl_le (by omega)))) ?_))
        (es_sh (d := .int (endM pl (ks ++ [k]) s0 : Nat)) (ed_is (ed_at_intL (i := endM pl ks s0) (d := .int (pl[k][endM pl ks s0] : Nat)) (ed_at_intL (i := k) (d := .lst (ntl pl[k])) (ed_var (d := .lst (deedsL pl)) 1) (ed_var (d := .int (k : Nat)) 8) (by simp [deedsL, hk])) (ed_var (d := .int (endM pl ks s0 : Nat)) 12) (ntl_get (List.getElem?_eq_getElem hk2))) ?_)) ?_ hnd
      · rw [rowF_snoc]
        unfold ntl
        rw [List.map_append]
        congr 2
        show _ = [Dt.int 0, Dt.int ((k + 1 : Nat) : Int)]
        rw [show (1 : Int) + (k : Int) = ((k + 1 : Nat) : Int) by omega]
      · congr 2
        unfold endM
        rw [List.foldl_append]
        show _ = (pl.getD k []).getD (endM pl ks s0) 0
        rw [List.getD_eq_getElem?_getD (l := pl), List.getElem?_eq_getElem hk, Option.getD_some, List.getD_eq_getElem?_getD, List.getElem?_eq_getElem hk2]
        rfl
      refine sds_nil ⟨⟨c, hc1, hc2, rfl⟩, ks ++ [k], _, _, _, _, _, by simp [hkl], fun x hx => ?_, rfl⟩
      rcases List.mem_append.mp hx with hx | hx
      · exact hks x hx
      · rw [List.mem_singleton.mp hx]; exact hk
    · rintro ds δ' ⟨⟨c, hc1, hc2, rfl⟩, ks, o3, o8, o14, o15, o16, hkl, hks, rfl⟩
      rw [rangeD_len] at hkl ⊢
      have hkl : ks.length = c := hkl
      exact ⟨_, ks, o3, o8, o14, o15, o16, by show n' + 2 + c ≤ _; omega, by omega, by omega, hks, rfl⟩
    rintro δ' ⟨n4, ks, o3, o8, o14, o15, o16, hn4, hk1, hk5, hks, rfl⟩
    have hrl := rowF_len ks
    have hrow : ∀ k ∈ rowF ks, k < ls.length := fun k hk => by
      rw [hls]
      exact rowF_mem hks k hk
    have tok := L.tok hrow hcp12 hcpl (by omega)
    obtain ⟨T, hT⟩ : ∃ T, T = textM (bookW ls) (rowF ks) cps := ⟨_, rfl⟩
    have hTl : T.length ≤ 1560 := by
      have := text_len tok
      rw [hT]
      omega
    have hTs : ∀ c ∈ T, sign c := by rw [hT]; exact L.text_sign hrow
    have hTe : ∀ i, T[i]? = some 32 → i + 1 < T.length := by rw [hT]; exact L.text_last hrow
    refine sds_set 14 (d := ts T) (ed_call (p_spelled Z) hr (ea_cons (ed_book Z (ed_var (d := machD K (bookW ls) (flagsL st pl) (2 * st)) 6)) (ea_cons (ed_var (d := .lst (ntl (rowF ks))) 11) (ea_cons (ed_var (d := .lst (ntl cps)) 9) ea_nil))) ⟨bookW ls, rowF ks, cps, tok, by omega, by omega, rfl, by rw [hT]⟩) ?_ hnd
    refine sds_asgF (F := hbF a) (i := 0) (x0 := n4) (vs := [15, 16]) (Φ := fun d n' => n' = n4 + 50 ∧ ∃ es : List Ed, es.length ≤ m ∧ chainE T es ∧ d = .tup [eds es, ts (runE T es)])
      (T := fun d' y => [some (.hb a y), some (.sh (.lst (deedsL pl))), some (.sh (.int (st : Nat))), o3, some (.sh (.lst (wordsD (bookW ls)))), some (.sh (.lst (deedsL (flagsL st pl)))), some (.sh (machD K (bookW ls) (flagsL st pl) (2 * st))), some (.sh (.int (m : Nat))), o8, some (.sh (.lst (ntl cps))), some (.sh d), some (.sh (.lst (ntl (rowF ks)))), some (.sh (.int (endM pl ks s0 : Nat))), some (.sh (.int (s0 : Nat))), some (.sh (ts T)), some (.sh (fst2 d')), some (.sh (snd2 d'))])
      (ef_callH (h_hurt Z) hr (Ψ := fun ds n' => ds = [ts T, .int (m : Nat)] ∧ n' = n4) (eaf_ea (F := hbF a) n4 (ea_cons (ed_var 14) (ea_cons (ed_var 7) ea_nil)) ⟨rfl, rfl⟩) (fun ds n' ⟨e1, e2⟩ => by
        subst e1 e2
        exact ⟨rfl, T, m, hTe, hTs, by omega, by omega, by omega, rfl, fun es h1 h2 => ⟨rfl, es, h1, h2, rfl⟩⟩)) (fun d' y ⟨e1, es, h1, h2, e2⟩ => by
        subst e1 e2
        exact gd_tup (gds_cons (gd_name 15 hnd) (gds_cons (gd_name 16 hnd) gds_nil))) ?_
    rintro d' y ⟨e1, es, hes, hch, e2⟩
    subst e1 e2
    have hRl := run_len hch
    have hRs := run_sign hch hTs
    have hnow := endM_lt hp hks hs0
    have hend : endM (flagsL st pl) (readM (bookW ls) (runE T es)) (2 * s0) = 2 * endM pl ks s0 := by
      rw [← flags_row hp hks hs0, hT]
      rw [hT] at hch
      exact damage_any L.l2 L.n2 (fun y hy => Nat.lt_of_lt_of_le mm (hm2 y hy)) hrow (fun z => by rw [z] at hrl; simp at hrl; omega) (fun k hk => hcpg k (hrow k hk)) hes hch mok (by omega) (fun k hk s hs => flags_once hp hk hs) (by omega)
    refine sds_ifF (et_w (ew_or (k := false) (k' := false) (et_cmp (ed_var (d := ts T) 14) (ed_call (p_L_spelled Z) hr (ea_cons (ed_var (d := .lst (wordsD (bookW ls))) 4) (ea_cons (ed_var (d := .lst (ntl (rowF ks))) 11) (ea_cons (ed_var (d := .lst (ntl cps)) 9) ea_nil))) ⟨bookW ls, rowF ks, cps, tok, .inl rfl, rfl⟩) (opd_b opd_nes (by rw [← hT]; simp)))
      fun _ => ew_or1 (et_cmp (ed_call (p_damaged Z) hr (ea_cons (ed_var (d := ts T) 14) (ea_cons (ed_var (d := eds es) 15) ea_nil)) ⟨T, es, hch, by omega, hTs, by omega, rfl, rfl⟩) (ed_var (d := ts (runE T es)) 16) (opd_b opd_nes (by simp))))) ?_
    refine sds_ifF (et_w (ew_or (k := false) (k' := false) (et_cmp (ed_meth (p_M_text Z) hr (ed_var (d := machD K (bookW ls) (flagsL st pl) (2 * st)) 6) (ea_cons (ed_var (d := ts (runE T es)) 16) (ea_cons (ed_is (ed_op ed_int (ed_var (d := .int (s0 : Nat)) 13) (opd_mul (.inl ⟨by decide, by decide⟩))) (show _ = Dt.int ((2 * s0 : Nat) : Int) by rw [Int.natCast_mul]; rfl)) ea_nil)) ⟨bookW ls, flagsL st pl, 2 * st, runE T es, 2 * s0, mok, L.bok, by omega, hRs, by omega, by omega, rfl, rfl⟩) (ed_op ed_int (ed_var (d := .int (endM pl ks s0 : Nat)) 12) (opd_mul (.inl ⟨by decide, by decide⟩))) (opd_b opd_ne (by rw [hend]; simp)))
      fun _ => ew_or1 (et_cmp (ed_meth (p_M_done Z) hr (ed_var (d := machD K (bookW ls) (flagsL st pl) (2 * st)) 6) (ea_cons (ed_var (d := .lst (ntl (rowF ks))) 11) (ea_cons (ed_is (ed_op ed_int (ed_var (d := .int (s0 : Nat)) 13) (opd_mul (.inl ⟨by decide, by decide⟩))) (show _ = Dt.int ((2 * s0 : Nat) : Int) by rw [Int.natCast_mul]; rfl)) ea_nil)) ⟨bookW ls, flagsL st pl, 2 * st, rowF ks, 2 * s0, mok, by omega, by omega, fun k hk => by rw [hfl, ← hls]; exact hrow k hk, by omega, by omega, rfl, rfl⟩) (ed_op ed_int (ed_var (d := .int (endM pl ks s0 : Nat)) 12) (opd_mul (.inl ⟨by decide, by decide⟩))) (opd_b opd_ne (by rw [flags_row hp hks hs0]; simp))))) ?_
    exact sds_nil ⟨n4 + 50, o3, o8, _, _, _, _, _, _, _, by omega, rfl⟩
  · rintro δ' ⟨n', o3, o8, o10, o11, o12, o13, o14, o15, o16, h1, h2⟩
    exact ⟨n', o3, o8, o10, o11, o12, o13, o14, o15, o16, h1, h2⟩
  rintro δ' ⟨n', o3, o8, o10, o11, o12, o13, o14, o15, o16, hn', rfl⟩
  exact sds_ret ed_bl ⟨n', _, rfl, ⟨rfl, Nat.le_refl _⟩, hΦ n' (by omega)⟩
end
end AP
end
/-! PL8 -/
section
set_option Elab.async false
set_option linter.all false
set_option maxRecDepth 100000
set_option maxHeartbeats 4000000
namespace AP
/-! ### a deed that settles late -/
def late0 (top : Nat) : List Nat := (List.range (top + 1)).map fun s => min (s + 1) top
def lateT (top : Nat) : List (List Nat) := [late0 top, List.replicate (top + 1) 0]
theorem late_at {top s : Nat} (h : s ≤ top) : (late0 top).getD s 0 = min (s + 1) top := by
  unfold late0
  rw [List.getD_eq_getElem?_getD, List.getElem?_map, List.getElem?_range (by omega)]
  rfl
theorem late_mok {top : Nat} (h : top ≤ 5) : MOk (lateT top) (top + 1) := by
  refine ⟨fun d hd => ?_, fun d hd x hx => ?_, by omega, by omega⟩
  · simp only [lateT, List.mem_cons, List.not_mem_nil, or_false] at hd
    rcases hd with rfl | rfl
    · simp [late0]
    · simp
  · simp only [lateT, List.mem_cons, List.not_mem_nil, or_false] at hd
    rcases hd with rfl | rfl
    · obtain ⟨s, hs, rfl⟩ := List.mem_map.mp hx
      omega
    · rw [List.eq_of_mem_replicate hx]
      omega
theorem late_rep {top : Nat} : ∀ (j s : Nat), s ≤ top → endM (lateT top) (List.replicate j 0) s = min (s + j) top
  | 0, s, h => by
    show s = _
    omega
  | j + 1, s, h => by
    rw [List.replicate_succ]
    show endM (lateT top) (List.replicate j 0) ((late0 top).getD s 0) = _
    rw [late_at h, late_rep j (min (s + 1) top) (by omega)]
    omega
theorem zero_rep {top : Nat} : ∀ (j s : Nat), s ≤ top → endM (lateT top) (List.replicate (j + 1) 1) s = 0
  | 0, s, h => by
    show (List.replicate (top + 1) 0).getD s 0 = 0
    rw [List.getD_eq_getElem?_getD, List.getElem?_replicate, if_pos (by omega)]
    rfl
  | j + 1, s, h => by
    rw [List.replicate_succ]
    show endM (lateT top) (List.replicate (j + 1) 1) ((List.replicate (top + 1) 0).getD s 0) = _
    have e : (List.replicate (top + 1) 0).getD s 0 = 0 := by
      rw [List.getD_eq_getElem?_getD, List.getElem?_replicate, if_pos (by omega)]
      rfl
    rw [e, zero_rep j 0 (by omega)]
theorem late_set0 {top : Nat} (h : 2 ≤ top) : SetAt (lateT top) (top + 1) 0 top := by
  refine ⟨by omega, by omega, fun s hs => ?_, fun j h1 h2 => ⟨0, by omega, ?_⟩⟩
  · rw [late_rep _ _ (by omega), late_rep _ _ (by omega)]
    omega
  · rw [late_rep _ _ (by omega), late_rep _ _ (by omega)]
    omega
theorem late_set1 {top : Nat} : SetAt (lateT top) (top + 1) 1 1 := by
  refine ⟨by omega, by omega, fun s hs => ?_, fun j h1 h2 => by omega⟩
  rw [zero_rep 0 s (by omega), zero_rep 1 s (by omega)]
theorem late_alike {top m : Nat} (h : 2 ≤ top) : ∀ k, k < 2 → Alike (lateT top) (top + 1) k ([2 * m + top, 2 * m + 1].getD k 0) m := fun k hk j h1 h2 s hs => by
  have : k = 0 ∨ k = 1 := by omega
  rcases this with rfl | rfl
  · have e : [2 * m + top, 2 * m + 1].getD 0 0 = 2 * m + top := rfl
    rw [e] at h1 h2 ⊢
    rw [late_rep _ _ (by omega), late_rep _ _ (by omega)]
    omega
  · have e : [2 * m + top, 2 * m + 1].getD 1 0 = 2 * m + 1 := rfl
    rw [e] at h1 h2 ⊢
    obtain ⟨i, rfl⟩ : ∃ i, j = i + 1 := ⟨j - 1, by omega⟩
    rw [zero_rep i s (by omega), zero_rep (2 * m) s (by omega)]
/-- the damage that is told -/
def lateP (m c : Nat) : List Nat := (List.range m).map fun p => (c - 2 * p - 1) * 5 - 1
def lateE (m c : Nat) : List Ed := (lateP m c).map .lost
def lostOk : List Nat → List Nat → Bool
  | _, [] => true
  | l, a :: r => decide (a < l.length) && decide (l.length ≤ 90000) && lostOk (doneE l (.lost a)) r
theorem lostOk_chain : ∀ {r l : List Nat}, lostOk l r = true → chainE l (r.map .lost)
  | [], _, _ => trivial
  | a :: r, l, h => by
    simp only [lostOk, Bool.and_eq_true, decide_eq_true_eq] at h
    exact ⟨h.1.1, h.1.2, lostOk_chain h.2⟩
theorem lns44 : Lns [4, 4] := ⟨by decide, by decide, by decide, by decide⟩
theorem late_edits {m top : Nat} (m1 : 1 ≤ m) (m2 : m ≤ 2) (t1 : 2 ≤ top) (t2 : top ≤ 5) : (withoutL 5 (2 * m + top - 1) (2 * m)).map lostD = (lateE m (2 * m + top - 1)).map Ed.dt := by
  have hm : m = 1 ∨ m = 2 := by omega
  have ht : top = 2 ∨ top = 3 ∨ top = 4 ∨ top = 5 := by omega
  rcases hm with rfl | rfl <;> rcases ht with rfl | rfl | rfl | rfl <;> rfl
theorem late_chain {m top : Nat} (m1 : 1 ≤ m) (m2 : m ≤ 2) (t1 : 2 ≤ top) (t2 : top ≤ 5) : chainE (textM (bookW [4, 4]) [0] [2 * m + top - 1, 2 * m + 1]) (lateE m (2 * m + top - 1)) := by
  have hm : m = 1 ∨ m = 2 := by omega
  have ht : top = 2 ∨ top = 3 ∨ top = 4 ∨ top = 5 := by omega
  rcases hm with rfl | rfl <;> rcases ht with rfl | rfl | rfl | rfl <;> exact lostOk_chain (by decide +kernel)
theorem late_parts {m top : Nat} (m1 : 1 ≤ m) (m2 : m ≤ 2) (t1 : 2 ≤ top) (t2 : top ≤ 5) : endL (bookW [4, 4]) (lateT top) (textM (bookW [4, 4]) [0] [2 * m + top - 1, 2 * m + 1]) 0 ≠ endL (bookW [4, 4]) (lateT top) (runE (textM (bookW [4, 4]) [0] [2 * m + top - 1, 2 * m + 1]) (lateE m (2 * m + top - 1))) 0 := by
  have hm : m = 1 ∨ m = 2 := by omega
  have ht : top = 2 ∨ top = 3 ∨ top = 4 ∨ top = 5 := by omega
  rcases hm with rfl | rfl <;> rcases ht with rfl | rfl | rfl | rfl <;> decide +kernel
end AP
end
/-! AP42 -/
section
set_option Elab.async false
set_option linter.all false
set_option maxRecDepth 100000
set_option maxHeartbeats 4000000
namespace AP
open PySem PySem.Spec PyProof.Rows L2 AL AZ
def trd0 : Dt → Dt
  | .tup [x, _, _] => x
  | _ => .non
def trd1 : Dt → Dt
  | .tup [_, x, _] => x
  | _ => .non
def trd2 : Dt → Dt
  | .tup [_, _, x] => x
  | _ => .non
theorem aaaa_eq : ("aaaa" : Str) = mk [97, 97, 97, 97] := by decide +kernel
theorem bbbb_eq : ("bbbb" : Str) = mk [98, 98, 98, 98] := by decide +kernel
theorem w44 : Dt.lst [.str "aaaa", .str "bbbb"] = .lst (wordsD (bookW [4, 4])) := by
  rw [aaaa_eq, bbbb_eq]
  rfl
section
variable {P : Program} {w : World} {K : PySem.W.Frag} {mg : Str → Option Value} {base : Heap}
theorem h_late_right (Ze : Ze K mg) (hP : Pf P fileS) : FnH P w K mg base 12 "_law_late_right" (fun n ds Φ => n ≤ 5000 ∧ ds = [] ∧ ∀ n', n' ≤ n + 1000 → Φ (.bl true) n') 1 := by
  have Z := Ze.d.z
  refine Z.mkH_L_late_right fun cdv A outer s H E a n ds Φ hr ⟨hn, e, hΦ⟩ => ?_
  subst e
  have hnd := S_L_late_right.nd
  refine sds_asgF (F := hbF a) (i := 0) (x0 := n) (vs := [1, 2, 3]) (Φ := fun d n' => n' = n + 2 ∧ ∃ k j : Nat, k < 4 ∧ j < 2 ∧ d = .tup [.int ((2 + k : Nat) : Int), .int ((1 + j : Nat) : Int), .lst (wordsD (bookW [4, 4]))])
    (T := fun d y => [some (.hb a y), some (.sh (trd0 d)), some (.sh (trd1 d)), some (.sh (trd2 d)), none, none, none, none, none, none, none, none, none])
    (ef_tup (F := hbF a) (Ψ := fun ds n' => n' = n + 2 ∧ ∃ k j : Nat, k < 4 ∧ j < 2 ∧ ds = [.int ((2 + k : Nat) : Int), .int ((1 + j : Nat) : Int), .lst (wordsD (bookW [4, 4]))]) (eaf_cons (fun d n' => n' = n + 1 ∧ ∃ k : Nat, k < 4 ∧ d = .int ((2 + k : Nat) : Int)) (ef_plus (n := n) (c := 2) (many := 4) Z hr ed_int (by decide) (by decide) (by omega)) fun d n' ⟨e1, k, hk, e2⟩ => by
      subst e1 e2
      refine eaf_cons (fun d n' => n' = n + 1 + 1 ∧ ∃ k : Nat, k < 2 ∧ d = .int ((1 + k : Nat) : Int)) (ef_plus (n := n + 1) (c := 1) (many := 2) Z hr ed_int (by decide) (by decide) (by omega)) fun d n' ⟨e1, j, hj, e2⟩ => ?_
      subst e1 e2
      exact eaf_ea (F := hbF a) (n + 1 + 1) (ea_cons (ed_is (ed_lst (ea_cons ed_str (ea_cons ed_str ea_nil))) w44) ea_nil) ⟨rfl, k, j, hk, hj, rfl⟩) fun ds n' ⟨e1, k, j, hk, hj, e2⟩ => by
      subst e1 e2
      exact ⟨by simp, rfl, k, j, hk, hj, rfl⟩) (fun d y ⟨e1, k, j, hk, hj, e2⟩ => by
      subst e1 e2
      exact gd_tup (gds_cons (gd_name 1 hnd) (gds_cons (gd_name 2 hnd) (gds_cons (gd_name 3 hnd) gds_nil)))) ?_
  rintro d y ⟨e1, k0, j0, hk0, hj0, e2⟩
  subst e1 e2
  obtain ⟨top, htop⟩ : ∃ top, top = 2 + k0 := ⟨_, rfl⟩
  obtain ⟨m, hm⟩ : ∃ m, m = 1 + j0 := ⟨_, rfl⟩
  rw [← htop, ← hm]
  have t1 : 2 ≤ top := by omega
  have t2 : top ≤ 5 := by omega
  have m1 : 1 ≤ m := by omega
  have m2 : m ≤ 2 := by omega
  clear htop hm hk0 hj0
  refine sds_set 4 (d := .lst (deedsL (lateT top))) (ed_lst (ea_cons (ed_is (ed_lcM 5 (ds := ntl (List.range (top + 1))) (fun d => .int (min (d.n + 1) top : Nat)) (id_is (id_range1 (ea_cons (ed_op (ed_var (d := .int (top : Nat)) 1) ed_int opd_add) ea_nil) (by omega) Z.f_range) (by
      rw [show ((top : Int) + 1).toNat = top + 1 by omega]
      exact range_nat _)) (blkOk_by (by kernel_rfl)) hnd (fun s H C cl fp d hd => ?_) (by rw [ntl_len]; simp; omega)) (show _ = Dt.lst (ntl (late0 top)) from ?_)) (ea_cons (ed_is (ed_op (ed_lst (ea_cons ed_int ea_nil)) (ed_op (ed_var (d := .int (top : Nat)) 1) ed_int opd_add) (opd_rep (by omega) (by omega) (by simp; exact sl_le (by omega)))) (show _ = Dt.lst (ntl (List.replicate (top + 1) 0)) from ?_)) ea_nil))) ?_ hnd
  · obtain ⟨k, hk, rfl⟩ := ntl_mem hd
    refine ed_is (ed_cb (ea_cons (ed_op (ed_var (d := .int (k : Nat)) 5) ed_int opd_add) (ea_cons (ed_var (d := .int (top : Nat)) 1) ea_nil)) cld_min2 Z.f_min) ?_
    show _ = Dt.int ((min (k + 1) top : Nat) : Int)
    congr 1
    split <;> omega
  · unfold ntl late0
    rw [List.map_map, List.map_map]
    rfl
  · rw [show ((top : Int) + 1).toNat = top + 1 by omega]
    exact rep_ntl (top + 1) 0
  have L := lns44
  have mok := late_mok t2
  have hbl : (bookW [4, 4]).length = 2 := rfl
  have htl : (lateT top).length = 2 := rfl
  refine sds_par2 6 7 (es_sh (d := machD K (bookW [4, 4]) (lateT top) (top + 1)) (ed_make (m_Machine Z) hr (ea_cons (ed_make (m_Book Z) hr (ea_cons (ed_var (d := .lst (wordsD (bookW [4, 4]))) 3) ea_nil) ⟨bookW [4, 4], L.bok, rfl, rfl, rfl⟩) (ea_cons (ed_var 4) ea_nil)) ⟨bookW [4, 4], lateT top, top + 1, mok, rfl, by omega, by omega, rfl, rfl, rfl⟩))
    (es_sh (d := .lst (ntl [2 * m + top, 2 * m + 1])) (ed_is (ed_lst (ea_cons (ed_op (ed_op ed_int (ed_var (d := .int (m : Nat)) 2) (opd_mul (.inl ⟨by decide, by decide⟩))) (ed_var (d := .int (top : Nat)) 1) opd_add) (ea_cons (ed_op (ed_op ed_int (ed_var (d := .int (m : Nat)) 2) (opd_mul (.inl ⟨by decide, by decide⟩))) ed_int opd_add) ea_nil))) ?_)) ?_ hnd
  · rfl
  have hcost : ∀ y ∈ costsL (bookW [4, 4]), 4 ≤ y := by decide +kernel
  have hsets : Sets (lateT top) (top + 1) [top, 1] := ⟨rfl, fun k hk => by
    rw [htl] at hk
    have : k = 0 ∨ k = 1 := by omega
    rcases this with rfl | rfl
    · exact late_set0 t1
    · exact late_set1⟩
  have hask1 := L.ask mok rfl (c := 4) (by omega) hcost m1 (by omega) (l := [2 * m + top, 2 * m + 1]) rfl fun k hk => by
    simp only [List.mem_cons, List.not_mem_nil, or_false] at hk
    omega
  have hask2 := L.ask mok rfl (c := 4) (by omega) hcost m1 (by omega) (l := [2 * m + top - 1, 2 * m + 1]) rfl fun k hk => by
    simp only [List.mem_cons, List.not_mem_nil, or_false] at hk
    omega
  refine sds_ifF (et_w (ew_or (k := false) (k' := false) (et_cmp (ed_call (p_copies_for Ze.d hP) hr (ea_cons (ed_var (d := machD K (bookW [4, 4]) (lateT top) (top + 1)) 6) (ea_cons (ed_var (d := .int (m : Nat)) 2) ea_nil)) ⟨bookW [4, 4], lateT top, top + 1, [top, 1], m, mok, hsets, by omega, m1, by omega, rfl, rfl⟩)
      (ed_is (ed_make (m_Copies Ze.d hP) hr (ea_cons (ed_var (d := .lst (ntl [2 * m + top, 2 * m + 1])) 7) ea_nil) ⟨[2 * m + top, 2 * m + 1], by show 2 ≤ 1000; decide, rfl, rfl, rfl⟩) (show _ = copiesV K ([top, 1].map fun k => 2 * m + k) from rfl)) (opd_neV Z Ze.c (same_copies Ze _) hr))
    fun _ => ew_or1 (et_cmp (ed_call (p_judged_text Ze.d hP) hr (ea_cons (ed_var (d := machD K (bookW [4, 4]) (lateT top) (top + 1)) 6) (ea_cons (ed_var (d := .lst (ntl [2 * m + top, 2 * m + 1])) 7) (ea_cons (ed_var (d := .int (m : Nat)) 2) ea_nil))) ⟨bookW [4, 4], lateT top, top + 1, [2 * m + top, 2 * m + 1], m, hask1, rfl, .inl ⟨late_alike t1, rfl⟩⟩) (ed_make0 (m_Stands Ze.d hP) hr ⟨rfl, rfl, rfl⟩) (opd_neV Z Ze.s (same_stands Ze) hr)))) ?_
  refine sds_set 8 (d := .lst (ntl [2 * m + top - 1, 2 * m + 1])) (ed_is (ed_lst (ea_cons (ed_op (ed_at_intL (i := 0) (d := .int ((2 * m + top : Nat) : Int)) (ed_var (d := .lst (ntl [2 * m + top, 2 * m + 1])) 7) ed_int rfl) ed_int opd_sub) (ea_cons (ed_at_intL (i := 1) (d := .int ((2 * m + 1 : Nat) : Int)) (ed_var (d := .lst (ntl [2 * m + top, 2 * m + 1])) 7) ed_int rfl) ea_nil))) ?_) ?_ hnd
  · show Dt.lst [.int _, .int _] = Dt.lst [.int ((2 * m + top - 1 : Nat) : Int), .int ((2 * m + 1 : Nat) : Int)]
    rw [show ((2 * m + top : Nat) : Int) - 1 = ((2 * m + top - 1 : Nat) : Int) by omega]
  obtain ⟨c, hc⟩ : ∃ c, c = 2 * m + top - 1 := ⟨_, rfl⟩
  have hdE := late_edits m1 m2 t1 t2
  have hch := late_chain m1 m2 t1 t2
  have hpt := late_parts m1 m2 t1 t2
  rw [← hc] at hask2 hdE hch hpt ⊢
  refine sds_set 9 (d := partsV K [.int (0 : Nat)] 0 ((lateE m c).map Ed.dt)) (ed_call (p_judged_text Ze.d hP) hr (ea_cons (ed_var (d := machD K (bookW [4, 4]) (lateT top) (top + 1)) 6) (ea_cons (ed_var (d := .lst (ntl [c, 2 * m + 1])) 8) (ea_cons (ed_var (d := .int (m : Nat)) 2) ea_nil))) ⟨bookW [4, 4], lateT top, top + 1, [c, 2 * m + 1], m, hask2, rfl, .inr ⟨?_, ?_⟩⟩) ?_ hnd
  · show endM (lateT top) (List.replicate (c - 2 * m) 0) 0 ≠ endM (lateT top) (List.replicate c 0) 0
    rw [late_rep _ _ (by omega), late_rep _ _ (by omega)]
    omega
  · rw [← hdE]
    rfl
  refine sds_ifF (et_not (k := true) (et_val (ed_cb (ea_cons (ed_var (d := partsV K [.int (0 : Nat)] 0 ((lateE m c).map Ed.dt)) 9) (ea_cons (ed_ga Z.g_Parts) ea_nil)) (cld_isC Z.in_Parts Z.kit_Parts_Parts) Z.f_isinstance))) ?_
  have hr0 : ∀ k ∈ [0], k < [4, 4].length := by decide
  have tok := L.tok (r := [0]) (cs := [c, 2 * m + 1]) hr0 (fun k hk => by
    simp only [List.mem_cons, List.not_mem_nil, or_false] at hk
    omega) rfl (by decide)
  obtain ⟨T, hT⟩ : ∃ T, T = textM (bookW [4, 4]) [0] [c, 2 * m + 1] := ⟨_, rfl⟩
  have hTl : T.length ≤ 156 := by
    have : _ ≤ 156 * 1 := text_len tok
    rw [hT]
    omega
  rw [← hT] at hch hpt
  obtain ⟨es, hes⟩ : ∃ es, es = lateE m c := ⟨_, rfl⟩
  rw [← hes] at hch hpt ⊢
  have hel : es.length = m := by rw [hes]; simp [lateE, lateP]
  have hRl := run_len hch
  refine sds_set 10 (d := ts T) (ed_call (p_L_spelled Z) hr (ea_cons (ed_var (d := .lst (wordsD (bookW [4, 4]))) 3) (ea_cons (ed_fld (d := .tup (ntl [0])) (ed_var (d := partsV K [.int (0 : Nat)] 0 (es.map Ed.dt)) 9) Z.cls_Parts Z.na_Parts_row rfl) (ea_cons (ed_var (d := .lst (ntl [c, 2 * m + 1])) 8) ea_nil))) ⟨bookW [4, 4], [0], [c, 2 * m + 1], tok, .inr rfl, by rw [hT]⟩) ?_ hnd
  refine sds_set 11 (d := ts T) (ed_var 10) ?_ hnd
  let I : Nat → De → Prop := fun i δ' => ∃ o : Option Sd, δ' = [some (.hb a (n + 1 + 1)), some (.sh (.int (top : Nat))), some (.sh (.int (m : Nat))), some (.sh (.lst (wordsD (bookW [4, 4])))), some (.sh (.lst (deedsL (lateT top)))), none, some (.sh (machD K (bookW [4, 4]) (lateT top) (top + 1))), some (.sh (.lst (ntl [2 * m + top, 2 * m + 1]))), some (.sh (.lst (ntl [c, 2 * m + 1]))), some (.sh (partsV K [.int (0 : Nat)] 0 (es.map Ed.dt))), some (.sh (ts T)), some (.sh (ts (runE T (es.take i)))), o]
  refine sds_cons (M := I es.length) (sd_for (ds := es.map Ed.dt) (vs := [12]) (δt := fun i δ' => δ'.set 12 (some (.sh ((es.map Ed.dt).getD i .non)))) I (id_tup (ed_fld (ed_var (d := partsV K [.int (0 : Nat)] 0 (es.map Ed.dt)) 9) Z.cls_Parts Z.na_Parts_edits rfl)) ⟨none, rfl⟩ ?_ ?_ ?_) ?_
  · rintro i d δ' hd ⟨o, rfl⟩
    rw [getD_of hd]
    exact gd_name 12 hnd
  · rintro i d δ' hd ⟨o, rfl⟩
    rw [getD_of hd]
    rw [List.getElem?_map] at hd
    obtain ⟨e, he, rfl⟩ := Option.map_eq_some_iff.mp hd
    obtain ⟨h1, h2⟩ := chain_at hch he
    exact sds_set 11 (ed_call (p_L_done Z) hr (ea_cons (ed_var (d := ts (runE T (es.take i))) 11) (ea_cons (ed_var (d := e.dt) 12) ea_nil)) ⟨_, e, h1, h2, rfl, rfl⟩) (sds_nil ⟨_, by rw [run_succ he]; rfl⟩) hnd
  · rintro δ' ⟨o, h⟩
    rw [List.length_map] at h
    exact ⟨o, h⟩
  rintro δ' ⟨o, rfl⟩
  rw [List.take_length]
  refine sds_ret (d := .bl true) (ed_is (ed_and (k := true) (k' := true) (ed_cmp (ed_cb (ea_cons (ed_fld (d := .tup (es.map Ed.dt)) (ed_var (d := partsV K [.int (0 : Nat)] 0 (es.map Ed.dt)) 9) Z.cls_Parts Z.na_Parts_edits rfl) ea_nil) cld_lenT Z.f_len) (ed_var (d := .int (m : Nat)) 2) (opd_b opd_le (by rw [List.length_map, hel]; simp)))
    fun _ => ed_one (ed_cmp (ed_call (p_L_end Z) hr (ea_cons (ed_var (d := .lst (wordsD (bookW [4, 4]))) 3) (ea_cons (ed_var (d := .lst (deedsL (lateT top))) 4) (ea_cons (ed_var (d := ts T) 10) (ea_cons (ed_fld (d := .int (0 : Nat)) (ed_var (d := partsV K [.int (0 : Nat)] 0 (es.map Ed.dt)) 9) Z.cls_Parts Z.na_Parts_start rfl) ea_nil)))) ⟨bookW [4, 4], lateT top, top + 1, T, 0, mok, rfl, by omega, by omega, rfl, rfl⟩)
      (ed_call (p_L_end Z) hr (ea_cons (ed_var (d := .lst (wordsD (bookW [4, 4]))) 3) (ea_cons (ed_var (d := .lst (deedsL (lateT top))) 4) (ea_cons (ed_var (d := ts (runE T es)) 11) (ea_cons (ed_fld (d := .int (0 : Nat)) (ed_var (d := partsV K [.int (0 : Nat)] 0 (es.map Ed.dt)) 9) Z.cls_Parts Z.na_Parts_start rfl) ea_nil)))) ⟨bookW [4, 4], lateT top, top + 1, runE T es, 0, mok, rfl, by omega, by omega, rfl, rfl⟩) (opd_b opd_ne (by
        have : ¬ ((endL (bookW [4, 4]) (lateT top) T 0 : Nat) : Int) = ((endL (bookW [4, 4]) (lateT top) (runE T es) 0 : Nat) : Int) := fun z => hpt (by omega)
        rw [decide_eq_false this]
        rfl)))) rfl) ⟨n + 2, _, rfl, ⟨rfl, Nat.le_refl _⟩, hΦ _ (by omega)⟩
end
end AP
end
/-! AP43 -/
section
set_option Elab.async false
set_option linter.all false
set_option maxRecDepth 100000
set_option maxHeartbeats 4000000
namespace AP
open PySem PySem.Spec PyProof.Rows L2 AL AZ
def spLaw (K : PySem.W.Frag) : Sp := fun vs H Q _ => ∃ (a : Addr) (ns : List Int), vs = [.ref a] ∧ SqL K H a (ns.map V.int) ∧ ns.length ≤ 63 ∧ ∀ H', Q (.bl true) H'
section
variable {P : Program} {w : World} {K : PySem.W.Frag} {mg : Str → Option Value}
theorem p_law (Ze : Ze K mg) (hP : Pf P fileS) : ∃ fd : FuncData, (∀ (s : Shared) (v : Value), BindsTo s fd ⟨[v], []⟩ [("_law_script", v)]) ∧ ∀ base : Heap, FnOk P w K mg base CX0 13 (He.fAd K ("law", none)) fd ["_law_script"] (spLaw K) := by
  have Z := Ze.d.z
  obtain ⟨fd, F⟩ := Z.d_law
  have b := FunD.bindsA (ps := ["_law_script"]) F fun _ _ _ _ _ _ us hl => match us, hl with | [_], _ => rfl
  refine ⟨fd, fun s v => b s [v] rfl, fun base => ?_⟩
  refine F.ok S_law (fun vs H Q E ⟨a, ns, h1, _⟩ => by rw [h1]; rfl) fun cdv A outer s H vs Q E hr h => ?_
  obtain ⟨a, ns, h1, hS, hz, q⟩ := h
  subst h1
  let D : EndsD := { rt := fun d _ => d = .bl true, nx := fun _ => False }
  have body : SDs (cxOf CX0 P w K mg base N_law "law" (defScope s_law) (He.fAd K ("law", none)) cdv A outer s H E).nox [] (argsD N_law [.sc ns]) (defBody s_law) D := by
    refine sds_setHb 1 (p_harbor Z) hr (ed_var (d := .sc ns) 0) (by omega) (fun a => ?_) S_law.nd
    refine sds_retF (F := hbF a) (i := 1) (x0 := 0) (Φ := fun d _ => d = .bl true) (ef_and (Ψ := fun d (n : Nat) => d = .bl true ∧ n ≤ 2000) ?_ ?_) (fun d y h => h)
    · exact ef_callH (h_flags_right Ze hP) hr (Ψ := fun ds n => ds = [] ∧ n = 0) (eaf_nil (F := hbF a) 0 ⟨rfl, rfl⟩) fun ds n ⟨e1, e2⟩ => by
        subst e1 e2
        exact ⟨rfl, by omega, rfl, fun n' hn' => ⟨rfl, by omega⟩⟩
    · rintro d y ⟨e1, hy⟩
      exact ⟨e1, ef_callH (h_late_right Ze hP) hr (Ψ := fun ds n => ds = [] ∧ n = y) (eaf_nil (F := hbF a) y ⟨rfl, rfl⟩) fun ds n ⟨e1, e2⟩ => by
        subst e1 e2
        exact ⟨rfl, by omega, rfl, fun n' hn' => rfl⟩⟩
  refine ⟨_, PSs.nox body, H, H, H, Fr.refl (Same.refl _), Sl.start (.cons (.sc hS) .nil), ?_, ?_, fun _ _ _ _ z => z.elim, fun _ _ _ _ z => z.elim⟩
  · rintro σ' δ' H' _ z
    exact z.elim
  · rintro v d' σ' δ' G' H' _ fr _ r' rfl
    cases r'
    exact q H'
end
end AP
end
/-! FIN -/
section
set_option Elab.async false
set_option linter.all false
set_option maxRecDepth 100000
set_option maxHeartbeats 0
namespace AnyHead
open PySem PySem.W PySem.Calls PyProof.Rows AZ
theorem ze_of {K : Frag} {h : Heap} {mg : PySem.Str → Option Value} (X : K.In h) (G : h.Ns mainGlobals mg) (c : HX.obsX K = HX.valX) : AP.Ze K mg := by
  obtain ⟨Z, fn, pp⟩ := HX.zd_of X G c
  have key : ∀ c ∈ HX.papL, AP.PapC K c := fun c hc => ⟨(pp c hc).ne, (pp c hc).eq, fn, (pp c hc).nm⟩
  exact ⟨Z, key "Lets" (by decide +kernel), key "Copies" (by decide +kernel), key "Stands" (by decide +kernel)⟩
theorem facts {w : World} {K : Frag} {h : Heap} {mg : PySem.Str → Option Value} {f : Addr} (X : K.In h) (G : h.Ns mainGlobals mg) (hfa : mg ("law" : PySem.Str) = some (.ref f)) (c : HX.obsX K = HX.valX) :
    ∃ fd : FuncData, (∀ (s : Shared) (v : Value), BindsTo s fd ⟨[v], []⟩ [("_law_script", v)]) ∧ ∀ base : Heap, K.In base → base.Ns mainGlobals mg → L2.FnOk (PySem.Challenge.rw_anyletter_k58_whole_any_deed_by_flags).prog w K mg base L2.CX0 13 f fd ["_law_script"] (AP.spLaw K) := by
  have Z := ze_of X G c
  have e := hfa.symm.trans Z.d.z.g_law
  cases e
  obtain ⟨fd, b, F⟩ := AP.p_law (P := (PySem.Challenge.rw_anyletter_k58_whole_any_deed_by_flags).prog) (w := w) Z ⟨by kernel_rfl, by kernel_rfl⟩
  exact ⟨fd, b, fun base _ _ => F base⟩
end AnyHead
open PySem PySem.W PySem.Calls PyProof.Rows
theorem PySem.Challenge.cw_anyletter_k58_whole_any_deed_by_flags_holds : PySem.Challenge.rw_anyletter_k58_whole_any_deed_by_flags.Holds := by
  w_on; o_law
  refine HandSHeadRun.head_any (r := AnyHead.R) (q := AnyHead.qv) (H := HX.hkX) (ob := AnyHead.ob) (M := 9000) (loose := AnyHead.names) (d := HandSHeadRun.topDef AnyHead.R.prog 119) (kwd := []) AnyHead.ob_eq
    (by kernel_rfl) (fun s => by kernel_rfl) AnyHead.run (by kernel_rfl) (by kernel_rfl) (by kernel_rfl) (by rfl) (by first | assumption | decide +kernel) (by decide +kernel) ⟨rfl, rfl, rfl, rfl, rfl, by decide +kernel⟩ ?hw ?hc
  case hw => w_witness2
  case hc =>
    refine L2.walk_ofE (l := PySem.Challenge.rw_anyletter_k58_whole_any_deed_by_flags) (n := 63) (k := 13) (x := "_law_script") (CX := L2.CX0) rfl (by decide) (by kernel_rfl) ⟨rfl, by decide, by decide⟩ ?F (fun _ _ _ _ z => z)
    intro w mg fa h Y G hmg0
    obtain ⟨K, KX, c⟩ := Y
    have hmg : mg ("law" : PySem.Str) = some (.ref fa) := by
      have e : (HandSHeadRun.topDef AnyHead.R.prog 119).name = ("law" : PySem.Str) := by kernel_rfl
      rw [← e]
      exact hmg0
    obtain ⟨fd, hb, hF⟩ := AnyHead.facts (w := w) KX G hmg c
    exact ⟨K, fd, AP.spLaw K, KX, hb, fun H a ns hl _ hS => ⟨a, ns, rfl, hS, hl, fun _ => rfl⟩, hF⟩
end
