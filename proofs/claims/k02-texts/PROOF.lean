import PyProof.Rows.All
import HandS.ForMost
import HandS.ForExc
import HandS.FStr
import HandS.Conv
import HandS.Style
import HandS.IsInst
import HandS.Deep
import HandS.TupAny
import HandS.TupLe
import HandS.SortInts
import HandS.SortOrd
import HandS.Strs
import HandS.Defaults
import HandS.SetFor
import HandS.SortRule
import HandS.Text
import HandS.TupSets
import HandS.Codes
import Wide.All
import OpenK.AllK
import Wide.FinOn
import KE.KStateDown
import Lean
import HandS.Ends
import HandS.More
import HandS.Words
import HandS.WordsExc
import HandS.Head0
import HandS.Head1
import HandS.Head2
import HandS.HeadEnd
import HandS.HeadHook1
import HandS.HeadHook2
import HandS.HeadWalk
import PySem.Challenge.RW_rangetexts_k02_whole_texts
section
set_option Elab.async false
set_option linter.all false
set_option maxRecDepth 100000
set_option maxHeartbeats 2000000
namespace RT
open PySem PySem.Spec PyProof.Rows L2
/-! ### data and what stands for it -/
mutual
inductive Dr (G : Hp) : V → PyData → Prop
  | non : Dr G .non .none
  | bl (b : Bool) : Dr G (.bl b) (.bool b)
  | int (i : Int) : Dr G (.int i) (.int i)
  | str (x : Str) : Dr G (.str x) (.str x)
  | lst {a : Addr} {xs : List V} {ds : List PyData} : G a = some (.lst xs) → DrAll G xs ds → Dr G (.ref a) (.list ds)
  | tup {a : Addr} {xs : List V} {ds : List PyData} : G a = some (.tup xs) → DrAll G xs ds → Dr G (.ref a) (.tuple ds)
inductive DrAll (G : Hp) : List V → List PyData → Prop
  | nil : DrAll G [] []
  | cons {v : V} {vs : List V} {d : PyData} {ds : List PyData} : Dr G v d → DrAll G vs ds → DrAll G (v :: vs) (d :: ds)
end
section
variable {G G' : Hp}
mutual
theorem Dr.mono (s : Same G G') : ∀ {v : V} {d : PyData}, Dr G v d → Dr G' v d
  | _, _, .non => .non
  | _, _, .bl b => .bl b
  | _, _, .int i => .int i
  | _, _, .str x => .str x
  | _, _, .lst h r => .lst (s _ _ h) (DrAll.mono s r)
  | _, _, .tup h r => .tup (s _ _ h) (DrAll.mono s r)
theorem DrAll.mono (s : Same G G') : ∀ {vs : List V} {ds : List PyData}, DrAll G vs ds → DrAll G' vs ds
  | _, _, .nil => .nil
  | _, _, .cons h r => .cons (h.mono s) (r.mono s)
end
mutual
theorem Dr.dp (K : PySem.W.Frag) : ∀ {v : V} {d : PyData}, Dr G v d → Dp K G v d
  | _, _, .non => .non
  | _, _, .bl b => .bl b
  | _, _, .int i => .int i
  | _, _, .str x => .str x
  | _, _, .lst h r => .lst (.of h) (DrAll.dp K r)
  | _, _, .tup h r => .tup (.of h) (DrAll.dp K r)
theorem DrAll.dp (K : PySem.W.Frag) : ∀ {vs : List V} {ds : List PyData}, DrAll G vs ds → DpAll K G vs ds
  | _, _, .nil => .nil
  | _, _, .cons h r => .cons (h.dp K) (r.dp K)
end
theorem DrAll.len : ∀ {vs : List V} {ds : List PyData}, DrAll G vs ds → vs.length = ds.length
  | _, _, .nil => rfl
  | _, _, .cons _ r => congrArg Nat.succ r.len
theorem DrAll.append : ∀ {vs us : List V} {ds es : List PyData}, DrAll G vs ds → DrAll G us es → DrAll G (vs ++ us) (ds ++ es)
  | _, _, _, _, .nil, r => r
  | _, _, _, _, .cons h t, r => .cons h (t.append r)
theorem DrAll.one {v : V} {d : PyData} (h : Dr G v d) : DrAll G [v] [d] := .cons h .nil
theorem DrAll.get : ∀ {vs : List V} {ds : List PyData} {i : Nat} {d : PyData}, DrAll G vs ds → ds[i]? = some d → ∃ v, vs[i]? = some v ∧ Dr G v d
  | _, _, _, _, .nil, h => by simp at h
  | _, _, 0, _, .cons r _, h => by
    simp at h
    subst h
    exact ⟨_, rfl, r⟩
  | _, _, i + 1, _, .cons _ t, h => by
    obtain ⟨v, e, r⟩ := t.get (i := i) (by simpa using h)
    exact ⟨v, by simpa using e, r⟩
theorem DrAll.take : ∀ {vs : List V} {ds : List PyData} (n : Nat), DrAll G vs ds → DrAll G (vs.take n) (ds.take n)
  | _, _, 0, _ => .nil
  | _, _, _ + 1, .nil => .nil
  | _, _, n + 1, .cons r t => .cons r (DrAll.take n t)
theorem DrAll.drop : ∀ {vs : List V} {ds : List PyData} (n : Nat), DrAll G vs ds → DrAll G (vs.drop n) (ds.drop n)
  | _, _, 0, r => r
  | _, _, _ + 1, .nil => .nil
  | _, _, n + 1, .cons _ t => DrAll.drop n t
theorem DrAll.rev : ∀ {vs : List V} {ds : List PyData}, DrAll G vs ds → DrAll G vs.reverse ds.reverse
  | _, _, .nil => .nil
  | _, _, .cons h t => by
    rw [List.reverse_cons, List.reverse_cons]
    exact t.rev.append (.one h)
theorem DrAll.set : ∀ {vs : List V} {ds : List PyData} {v : V} {d : PyData} (i : Nat), Dr G v d → DrAll G vs ds → DrAll G (vs.set i v) (ds.set i d)
  | _, _, _, _, _, _, .nil => .nil
  | _, _, _, _, 0, h, .cons _ t => .cons h t
  | _, _, _, _, i + 1, h, .cons r t => .cons r (DrAll.set i h t)
theorem DrAll.rep : ∀ (n : Nat) {vs : List V} {ds : List PyData}, DrAll G vs ds → DrAll G (List.replicate n vs).flatten (List.replicate n ds).flatten
  | 0, _, _, _ => .nil
  | n + 1, _, _, h => by
    rw [List.replicate_succ, List.replicate_succ, List.flatten_cons, List.flatten_cons]
    exact h.append (DrAll.rep n h)
theorem DrAll.ints : ∀ {ns : List Int} {vs : List V}, DrAll G vs (ns.map PyData.int) → vs = ns.map V.int
  | [], _, .nil => rfl
  | n :: ns, _, .cons (v := v) h t => by
    cases h
    rw [List.map_cons, t.ints]
theorem DrAll.of_ints : ∀ (ns : List Int), DrAll G (ns.map V.int) (ns.map PyData.int)
  | [] => .nil
  | n :: ns => .cons (.int n) (DrAll.of_ints ns)
theorem DrAll.strs : ∀ {ns : List Str} {vs : List V}, DrAll G vs (ns.map PyData.str) → vs = ns.map V.str
  | [], _, .nil => rfl
  | n :: ns, _, .cons (v := v) h t => by
    cases h
    rw [List.map_cons, t.strs]
theorem DrAll.of_strs : ∀ (ns : List Str), DrAll G (ns.map V.str) (ns.map PyData.str)
  | [] => .nil
  | n :: ns => .cons (.str n) (DrAll.of_strs ns)
theorem DrAll.bls : ∀ {ns : List Bool} {vs : List V}, DrAll G vs (ns.map PyData.bool) → vs = ns.map V.bl
  | [], _, .nil => rfl
  | n :: ns, _, .cons (v := v) h t => by
    cases h
    rw [List.map_cons, t.bls]
end

/-! ### kinds of errors, values, worlds -/
inductive EK where
  | set | item | number | text | none
  deriving DecidableEq
inductive D where
  | py (d : PyData) | ex (k : EK) | rf (a : Addr)
def ExT (c a : Addr) : HO := .ext fun h => ∃ (oe : Obj) (vs : Array Value), h.get? a = some oe ∧ Zc (.ref c) Option.none oe ∧ oe.data = .fields vs
def Rv (C : EK → Addr) (G : Hp) (v : V) : D → Prop
  | .py d => Dr G v d
  | .ex k => ∃ a, v = .ref a ∧ G a = some (ExT (C k) a)
  | .rf a => v = .ref a
theorem Rv.mono {C : EK → Addr} {G G' : Hp} (s : Same G G') {v : V} : ∀ {d : D}, Rv C G v d → Rv C G' v d
  | .py _, h => Dr.mono s h
  | .ex _, ⟨a, e, h⟩ => ⟨a, e, s _ _ h⟩
  | .rf _, h => h
/-- G: never changes again; Z: kept by an invariant of its own; H: all -/
structure Wd where
  G : Hp
  Z : Hp
  H : Hp
structure Wd.Ok (M : Wd) : Prop where
  g : Same M.G M.H
  z : Same M.Z M.H
  d : ∀ b o, M.G b = some o → M.Z b = Option.none
structure Ext (M M' : Wd) : Prop where
  ok : M'.Ok
  g : Same M.G M'.G
  t : ∀ b, M'.H b = Option.none → M.H b = Option.none
  k : ∀ b o, M.H b = some o → M.Z b = Option.none → M'.H b = some o ∧ M'.G b = M.G b ∧ M'.Z b = Option.none
theorem Ext.refl {M : Wd} (o : M.Ok) : Ext M M := ⟨o, Same.refl _, fun _ h => h, fun _ _ h z => ⟨h, rfl, z⟩⟩
theorem Ext.trans {M M1 M2 : Wd} (a : Ext M M1) (b : Ext M1 M2) : Ext M M2 := ⟨b.ok, a.g.trans b.g, fun c h => a.t c (b.t c h), fun c o h z => by
  obtain ⟨h1, g1, z1⟩ := a.k c o h z
  obtain ⟨h2, g2, z2⟩ := b.k c o h1 z1
  exact ⟨h2, g2.trans g1, z2⟩⟩
def Ext0 (M M' : Wd) : Prop := Ext M M' ∧ M'.Z = M.Z
theorem Ext0.refl {M : Wd} (o : M.Ok) : Ext0 M M := ⟨.refl o, rfl⟩
theorem Ext0.trans {M M1 M2 : Wd} (a : Ext0 M M1) (b : Ext0 M1 M2) : Ext0 M M2 := ⟨a.1.trans b.1, b.2.trans a.2⟩
/-- a new object that never changes -/
def Wd.add (M : Wd) (p : Addr) (o : HO) : Wd := ⟨upd M.G p o, M.Z, upd M.H p o⟩
theorem upd_same_of {H : Hp} {p : Addr} {o : HO} (h : H p = Option.none) : Same H (upd H p o) := fun b x e => by
  rw [upd_ne (ne_of_none e h)]
  exact e
theorem Wd.Ok.free {M : Wd} (o : M.Ok) {p : Addr} (h : M.H p = Option.none) : M.G p = Option.none ∧ M.Z p = Option.none := ⟨o.g.free h, o.z.free h⟩
theorem Ext0.add {M : Wd} (ok : M.Ok) {p : Addr} {o : HO} (h : M.H p = Option.none) : Ext0 M (M.add p o) := by
  obtain ⟨hg, hz⟩ := ok.free h
  refine ⟨⟨⟨fun b x e => ?_, fun b x e => ?_, fun b x e => ?_⟩, upd_same_of hg, fun b e => ?_, fun b x e z => ?_⟩, rfl⟩
  · by_cases hb : b = p
    · subst hb
      have e' : upd M.G b o b = some x := e
      rw [upd_same] at e'
      show upd M.H b o b = some x
      rw [upd_same]
      exact e'
    · have e' : upd M.G p o b = some x := e
      rw [upd_ne hb] at e'
      show upd M.H p o b = some x
      rw [upd_ne hb]
      exact ok.g _ _ e'
  · show upd M.H p o b = some x
    rw [upd_ne (ne_of_none (ok.z _ _ e) h)]
    exact ok.z _ _ e
  · by_cases hb : b = p
    · subst hb
      exact hz
    · have e' : upd M.G p o b = some x := e
      rw [upd_ne hb] at e'
      exact ok.d _ _ e'
  · by_cases hb : b = p
    · rw [hb]
      exact h
    · have e' : upd M.H p o b = Option.none := e
      rw [upd_ne hb] at e'
      exact e'
  · have hb := ne_of_none e h
    refine ⟨?_, ?_, z⟩
    · show upd M.H p o b = some x
      rw [upd_ne hb]
      exact e
    · show upd M.G p o b = M.G b
      rw [upd_ne hb]
theorem add_at {M : Wd} {p : Addr} {o : HO} : (M.add p o).G p = some o := upd_same

/-! ### what is kept beside -/
structure Vl where
  C : EK → Addr
  Θ : Type
  J : Θ → Hp → Hp → Prop
  mono : ∀ {θ : Θ} {G G' Z : Hp}, Same G G' → J θ G Z → J θ G' Z
/-- nothing -/
abbrev V0 (C : EK → Addr) : Vl := ⟨C, Unit, fun _ _ Z => ∀ b, Z b = Option.none, fun _ h => h⟩
abbrev Vl.at (V : Vl) (θ : V.Θ) (M : Wd) : Prop := V.J θ M.G M.Z
theorem Vl.ext0 {V : Vl} {θ : V.Θ} {M M' : Wd} (e : Ext0 M M') (j : V.at θ M) : V.at θ M' := by
  have h : V.J θ M'.G M.Z := V.mono e.1.g j
  rw [← e.2] at h
  exact h

/-! ### slots -/
inductive Sl where
  | no | is (d : D) | own (ds : List PyData)
abbrev DS := List Sl
def RSl (C : EK → Addr) (M : Wd) (H0 : Hp) (a : Addr) (x : Option (Option V)) : Sl → Prop
  | .no => True
  | .is d => ∃ v, x = some (some v) ∧ Rv C M.G v d
  | .own ds => x = some (some (.ref a)) ∧ M.G a = Option.none ∧ M.Z a = Option.none ∧ H0 a = Option.none ∧ ∃ xs, M.H a = some (.lst xs) ∧ DrAll M.G xs ds
structure Rep (C : EK → Addr) (H0 : Hp) (M : Wd) (σ : L2.St) (ρ : DS) : Prop where
  ok : M.Ok
  len : σ.length = ρ.length
  sl : ∃ am : Nat → Addr, (∀ i j ds es, ρ[i]? = some (.own ds) → ρ[j]? = some (.own es) → am i = am j → i = j) ∧ ∀ i x, ρ[i]? = some x → RSl C M H0 (am i) (σ[i]?) x
section
variable {C : EK → Addr} {H0 : Hp} {M M' : Wd} {σ : L2.St} {ρ : DS}
theorem RSl.ext {a : Addr} {x : Option (Option V)} (e : Ext M M') : ∀ {s : Sl}, RSl C M H0 a x s → RSl C M' H0 a x s
  | .no, _ => trivial
  | .is _, ⟨v, h, r⟩ => ⟨v, h, r.mono e.g⟩
  | .own _, ⟨h, g, z, h0, xs, hx, r⟩ => by
    obtain ⟨k1, k2, k3⟩ := e.k a _ hx z
    exact ⟨h, k2.trans g, k3, h0, xs, k1, r.mono e.g⟩
theorem Rep.ext (r : Rep C H0 M σ ρ) (e : Ext M M') : Rep C H0 M' σ ρ := by
  obtain ⟨am, h1, h2⟩ := r.sl
  exact ⟨e.ok, r.len, am, h1, fun i x h => (h2 i x h).ext e⟩
theorem get_set {α : Type} {l : List α} {i j : Nat} {x y : α} (h : (l.set i x)[j]? = some y) : (i = j ∧ x = y) ∨ (i ≠ j ∧ l[j]? = some y) := by
  by_cases e : i = j
  · subst e
    by_cases hi : i < l.length
    · rw [List.getElem?_set_self hi] at h
      exact .inl ⟨rfl, Option.some.inj h⟩
    · rw [List.getElem?_eq_none (by simpa using hi)] at h
      cases h
  · rw [List.getElem?_set_ne e] at h
    exact .inr ⟨e, h⟩
theorem lt_of_get {α : Type} {l : List α} {i : Nat} {x : α} (h : l[i]? = some x) : i < l.length := by
  by_cases hi : i < l.length
  · exact hi
  · rw [List.getElem?_eq_none (Nat.le_of_not_lt hi)] at h
    cases h
/-- slot i is given data, or forgotten -/
theorem Rep.set (r : Rep C H0 M σ ρ) (i : Nat) {v : V} {d : D} (h : Rv C M.G v d) : Rep C H0 M (σ.set i (some v)) (ρ.set i (.is d)) := by
  obtain ⟨am, h1, h2⟩ := r.sl
  refine ⟨r.ok, by rw [List.length_set, List.length_set]; exact r.len, am, fun j k ds es hj hk e => ?_, fun j x hx => ?_⟩
  · rcases get_set hj with ⟨_, q⟩ | ⟨_, q⟩
    · cases q
    · rcases get_set hk with ⟨_, q'⟩ | ⟨_, q'⟩
      · cases q'
      · exact h1 j k ds es q q' e
  · rcases get_set hx with ⟨rfl, q⟩ | ⟨ne, q⟩
    · subst q
      have hi : i < ρ.length := by
        have := lt_of_get hx
        simpa using this
      exact ⟨v, by rw [List.getElem?_set_self (by rw [r.len]; exact hi)], h⟩
    · have := h2 j x q
      rw [List.getElem?_set_ne ne]
      exact this
theorem Rep.forget (r : Rep C H0 M σ ρ) (i : Nat) (o : Option V) : Rep C H0 M (σ.set i o) (ρ.set i .no) := by
  obtain ⟨am, h1, h2⟩ := r.sl
  refine ⟨r.ok, by rw [List.length_set, List.length_set]; exact r.len, am, fun j k ds es hj hk e => ?_, fun j x hx => ?_⟩
  · rcases get_set hj with ⟨_, q⟩ | ⟨_, q⟩
    · cases q
    · rcases get_set hk with ⟨_, q'⟩ | ⟨_, q'⟩
      · cases q'
      · exact h1 j k ds es q q' e
  · rcases get_set hx with ⟨rfl, q⟩ | ⟨ne, q⟩
    · subst q
      trivial
    · have := h2 j x q
      rw [List.getElem?_set_ne ne]
      exact this
theorem Rep.get (r : Rep C H0 M σ ρ) {i : Nat} {d : D} (h : ρ[i]? = some (.is d)) : ∃ v, σ[i]? = some (some v) ∧ Rv C M.G v d := by
  obtain ⟨am, _, h2⟩ := r.sl
  exact h2 i _ h
theorem Rep.getOwn (r : Rep C H0 M σ ρ) {i : Nat} {ds : List PyData} (h : ρ[i]? = some (.own ds)) : ∃ a xs, σ[i]? = some (some (.ref a)) ∧ M.G a = Option.none ∧ M.Z a = Option.none ∧ H0 a = Option.none ∧ M.H a = some (.lst xs) ∧ DrAll M.G xs ds := by
  obtain ⟨am, _, h2⟩ := r.sl
  obtain ⟨e, g, z, h0, xs, hx, rr⟩ := h2 i _ h
  exact ⟨_, xs, e, g, z, h0, hx, rr⟩
/-- the own list of slot i is written -/
def Wd.put (M : Wd) (p : Addr) (o : HO) : Wd := ⟨M.G, M.Z, upd M.H p o⟩
theorem put_ok (ok : M.Ok) {p : Addr} {o : HO} (g : M.G p = Option.none) (z : M.Z p = Option.none) : (M.put p o).Ok := by
  refine ⟨fun b x e => ?_, fun b x e => ?_, ok.d⟩
  · show upd M.H p o b = some x
    rw [upd_ne (ne_of_none (show M.G b = some x from e) g)]
    exact ok.g _ _ e
  · show upd M.H p o b = some x
    rw [upd_ne (ne_of_none (show M.Z b = some x from e) z)]
    exact ok.z _ _ e
theorem Rep.put (r : Rep C H0 M σ ρ) {i : Nat} {ds es : List PyData} {a : Addr} {ys : List V} (h : ρ[i]? = some (.own ds)) (ha : σ[i]? = some (some (.ref a))) (g : M.G a = Option.none) (z : M.Z a = Option.none) (hy : DrAll M.G ys es) :
    Rep C H0 (M.put a (.lst ys)) σ (ρ.set i (.own es)) := by
  obtain ⟨am, h1, h2⟩ := r.sl
  have hi := h2 i _ h
  have ea : am i = a := by
    have q : some (some (V.ref a)) = some (some (V.ref (am i))) := ha.symm.trans hi.1
    injection q with q
    injection q with q
    injection q with q
    exact q.symm
  refine ⟨put_ok r.ok g z, by rw [List.length_set]; exact r.len, am, fun j k d1 d2 hj hk e => ?_, fun j x hx => ?_⟩
  · have f : ∀ {j ds'}, (ρ.set i (Sl.own es))[j]? = some (Sl.own ds') → ∃ d, ρ[j]? = some (Sl.own d) := fun {j ds'} q => by
      rcases get_set q with ⟨rfl, _⟩ | ⟨_, q⟩
      · exact ⟨_, h⟩
      · exact ⟨_, q⟩
    obtain ⟨_, q1⟩ := f hj
    obtain ⟨_, q2⟩ := f hk
    exact h1 j k _ _ q1 q2 e
  · rcases get_set hx with ⟨rfl, q⟩ | ⟨ne, q⟩
    · subst q
      rw [ea]
      exact ⟨ha, g, z, by rw [← ea]; exact hi.2.2.2.1, ys, upd_same, hy⟩
    · have s := h2 j x q
      cases x with
      | no => trivial
      | is d => exact s
      | own d2 =>
        obtain ⟨e1, e2, e3, e4, xs, hx', r'⟩ := s
        refine ⟨e1, e2, e3, e4, xs, ?_, r'⟩
        show upd M.H a (.lst ys) (am j) = _
        rw [upd_ne ?_]
        · exact hx'
        · intro q'
          exact ne (h1 i j _ _ h q (ea.trans q'.symm))
/-- slot i is given a new own list -/
theorem Rep.newOwn (r : Rep C H0 M σ ρ) (i : Nat) {p : Addr} {ys : List V} {es : List PyData} (hp : M.H p = Option.none) (h0 : H0 p = Option.none) (hy : DrAll M.G ys es) : Rep C H0 (M.put p (.lst ys)) (σ.set i (some (.ref p))) (ρ.set i (.own es)) := by
  obtain ⟨am, h1, h2⟩ := r.sl
  obtain ⟨g, z⟩ := r.ok.free hp
  refine ⟨put_ok r.ok g z, by rw [List.length_set, List.length_set]; exact r.len, fun j => if j = i then p else am j, fun j k d1 d2 hj hk e => ?_, fun j x hx => ?_⟩
  · have ap : ∀ {j d}, ρ[j]? = some (.own d) → am j ≠ p := fun {j d} q => by
      obtain ⟨_, _, _, _, xs, hx', _⟩ := h2 j _ q
      exact ne_of_none hx' hp
    rcases get_set hj with ⟨rfl, _⟩ | ⟨n1, q1⟩
    · rcases get_set hk with ⟨rfl, _⟩ | ⟨n2, q2⟩
      · rfl
      · simp only [if_true, if_neg (Ne.symm n2)] at e
        exact absurd e.symm (ap q2)
    · rcases get_set hk with ⟨rfl, _⟩ | ⟨n2, q2⟩
      · simp only [if_true, if_neg (Ne.symm n1)] at e
        exact absurd e (ap q1)
      · simp only [if_neg (Ne.symm n1), if_neg (Ne.symm n2)] at e
        exact h1 j k _ _ q1 q2 e
  · rcases get_set hx with ⟨rfl, q⟩ | ⟨ne, q⟩
    · subst q
      simp only [if_true]
      have hi : i < ρ.length := by
        have := lt_of_get hx
        simpa using this
      exact ⟨by rw [List.getElem?_set_self (by rw [r.len]; exact hi)], g, z, h0, ys, upd_same, hy⟩
    · rw [List.getElem?_set_ne ne]
      simp only [if_neg (Ne.symm ne)]
      have s := h2 j x q
      cases x with
      | no => trivial
      | is d => exact s
      | own d2 =>
        obtain ⟨e1, e2, e3, e4, xs, hx', r'⟩ := s
        refine ⟨e1, e2, e3, e4, xs, ?_, r'⟩
        show upd M.H p (.lst ys) (am j) = _
        rw [upd_ne (ne_of_none hx' hp)]
        exact hx'
end
end RT
end
section
set_option Elab.async false
set_option linter.all false
set_option maxRecDepth 100000
set_option maxHeartbeats 2000000
namespace RT
open PySem PySem.Spec PyProof.Rows L2
abbrev WE (Θ : Type) := DS → Θ → (D → Θ → Prop) → (EK → Θ → Prop) → Prop
abbrev WA (Θ : Type) := DS → Θ → (List D → Θ → Prop) → (EK → Θ → Prop) → Prop
abbrev WT (Θ : Type) := DS → Θ → (Bool → Θ → Prop) → (EK → Θ → Prop) → Prop
/-! ### strict and reading -/
inductive Md where
  | s | r
def OwnL (M : Wd) (v : V) (d : D) : Prop := ∃ a xs ds, v = .ref a ∧ d = .py (.list ds) ∧ M.H a = some (.lst xs) ∧ M.G a = none ∧ M.Z a = none ∧ DrAll M.G xs ds
def Re (C : EK → Addr) : Md → Wd → V → D → Prop
  | .s, M, v, d => Rv C M.G v d
  | .r, M, v, d => Rv C M.G v d ∨ OwnL M v d
theorem Re.r {C : EK → Addr} {M : Wd} {v : V} {d : D} : ∀ {m : Md}, Re C m M v d → Re C .r M v d
  | .s, h => .inl h
  | .r, h => h
theorem Re.ext {C : EK → Addr} {M M' : Wd} {v : V} {d : D} (e : Ext M M') : ∀ {m : Md}, Re C m M v d → Re C m M' v d
  | .s, h => Rv.mono e.g h
  | .r, .inl h => .inl (Rv.mono e.g h)
  | .r, .inr ⟨a, xs, ds, e1, e2, h, g, z, r⟩ => by
    obtain ⟨k1, k2, k3⟩ := e.k a _ h z
    exact .inr ⟨a, xs, ds, e1, e2, k1, k2.trans g, k3, r.mono e.g⟩
section
variable {C : EK → Addr} {M : Wd} {v : V}
theorem Re.list {ds : List PyData} (ok : M.Ok) (h : Re C .r M v (.py (.list ds))) : ∃ a xs, v = .ref a ∧ M.H a = some (.lst xs) ∧ DrAll M.G xs ds := by
  rcases h with h | ⟨a, xs, ds', e1, e2, h, _, _, r⟩
  · cases (show Dr M.G v (.list ds) from h) with
    | lst e r => exact ⟨_, _, rfl, ok.g _ _ e, r⟩
  · cases e2
    exact ⟨a, xs, e1, h, r⟩
theorem Re.tuple {ds : List PyData} (ok : M.Ok) (h : Re C .r M v (.py (.tuple ds))) : ∃ a xs, v = .ref a ∧ M.H a = some (.tup xs) ∧ DrAll M.G xs ds := by
  rcases h with h | ⟨a, xs, ds', e1, e2, h, _, _, r⟩
  · cases (show Dr M.G v (.tuple ds) from h) with
    | tup e r => exact ⟨_, _, rfl, ok.g _ _ e, r⟩
  · cases e2
theorem Re.int {i : Int} (h : Re C .r M v (.py (.int i))) : v = .int i := by
  rcases h with h | ⟨a, xs, ds', e1, e2, _⟩
  · cases (show Dr M.G v (.int i) from h)
    rfl
  · cases e2
theorem Re.str {i : Str} (h : Re C .r M v (.py (.str i))) : v = .str i := by
  rcases h with h | ⟨a, xs, ds', e1, e2, _⟩
  · cases (show Dr M.G v (.str i) from h)
    rfl
  · cases e2
theorem Re.bl {i : Bool} (h : Re C .r M v (.py (.bool i))) : v = .bl i := by
  rcases h with h | ⟨a, xs, ds', e1, e2, _⟩
  · cases (show Dr M.G v (.bool i) from h)
    rfl
  · cases e2
theorem Re.non (h : Re C .r M v (.py .none)) : v = .non := by
  rcases h with h | ⟨a, xs, ds', e1, e2, _⟩
  · cases (show Dr M.G v .none from h)
    rfl
  · cases e2
theorem Re.dp (K : PySem.W.Frag) {d : PyData} (ok : M.Ok) (h : Re C .r M v (.py d)) : Dp K M.H v d := by
  rcases h with h | ⟨a, xs, ds', e1, e2, h, _, _, r⟩
  · exact (Dr.mono ok.g h).dp K
  · cases e2
    subst e1
    exact .lst (.of h) ((r.mono ok.g).dp K)
end
/-! ### readings as data -/
variable {X : Cx} {L : Vl} {Wx : WX}
def RXe (L : Vl) (Wx : WX) (m : Md) (t : TE) (w : WE L.Θ) : Prop := ∀ (H0 : Hp) (M : Wd) (σ : L2.St) (ρ : DS) (θ : L.Θ) (Q : VK) (N : D → L.Θ → Prop) (Nx : EK → L.Θ → Prop), Rep L.C H0 M σ ρ → L.at θ M → w ρ θ N Nx →
  (∀ d θ' M' v, Ext M M' → L.at θ' M' → Re L.C m M' v d → N d θ' → Q v M'.H) → (∀ k θ' M', Ext M M' → L.at θ' M' → Nx k θ' → Wx (.ref (L.C k)) none σ M'.H) → t σ M.H Q
def RXa (L : Vl) (Wx : WX) (m : Md) (t : TA) (w : WA L.Θ) : Prop := ∀ (H0 : Hp) (M : Wd) (σ : L2.St) (ρ : DS) (θ : L.Θ) (Q : List V → Hp → Prop) (N : List D → L.Θ → Prop) (Nx : EK → L.Θ → Prop), Rep L.C H0 M σ ρ → L.at θ M → w ρ θ N Nx →
  (∀ ds θ' M' vs, Ext M M' → L.at θ' M' → Paired (Re L.C m M') vs ds → N ds θ' → Q vs M'.H) → (∀ k θ' M', Ext M M' → L.at θ' M' → Nx k θ' → Wx (.ref (L.C k)) none σ M'.H) → t σ M.H Q
def RXt (L : Vl) (Wx : WX) (t : TT) (w : WT L.Θ) : Prop := ∀ (H0 : Hp) (M : Wd) (σ : L2.St) (ρ : DS) (θ : L.Θ) (Q : Bool → Hp → Prop) (N : Bool → L.Θ → Prop) (Nx : EK → L.Θ → Prop), Rep L.C H0 M σ ρ → L.at θ M → w ρ θ N Nx →
  (∀ b θ' M', Ext M M' → L.at θ' M' → N b θ' → Q b M'.H) → (∀ k θ' M', Ext M M' → L.at θ' M' → Nx k θ' → Wx (.ref (L.C k)) none σ M'.H) → t σ M.H Q
structure EX (X : Cx) (L : Vl) (Wx : WX) (m : Md) (e : Expr) (w : WE L.Θ) : Prop where
  ex : ∃ t, PE X e t ∧ RXe L Wx m t w
structure AX (X : Cx) (L : Vl) (Wx : WX) (m : Md) (es : List Expr) (w : WA L.Θ) : Prop where
  ex : ∃ t, PA X es t ∧ RXa L Wx m t w
structure TX (X : Cx) (L : Vl) (Wx : WX) (e : Expr) (w : WT L.Θ) : Prop where
  ex : ∃ t, PT X e t ∧ RXt L Wx t w
structure TW (X : Cx) (L : Vl) (Wx : WX) (e : Expr) (w : WT L.Θ) : Prop where
  ex : ∃ t, PW X e t ∧ RXt L Wx t w
section
variable {m : Md} {a b c : Expr} {rest : List Expr} {wa wb : WE L.Θ} {ta tb : WT L.Θ} {pos : Pos}
/-! ### names, constants -/
def wVar {Θ : Type} (i : Nat) : WE Θ := fun ρ θ N _ => ∃ d, ρ[i]? = some (.is d) ∧ N d θ
def wOwn {Θ : Type} (i : Nat) : WE Θ := fun ρ θ N _ => ∃ ds, ρ[i]? = some (.own ds) ∧ N (.py (.list ds)) θ
def wC {Θ : Type} (d : PyData) : WE Θ := fun _ θ N _ => N (.py d) θ
theorem ex_var (i : Nat) {x : Str} (hN : X.N[i]? = some x := by rfl) (hv : Vis X.env.scope x := by first | exact Or.inl rfl | exact Or.inr (Or.inl rfl) | exact Or.inr (Or.inr rfl)) (hd : (x == ("__debug__" : Str)) = false := by decide)
    (hcd : (x == ("__classdict__" : Str)) = false := by decide) : EX X L Wx .s (.Name x pos) (wVar i) := by
  refine ⟨_, pe_var hN hv hd hcd, fun H0 M σ ρ θ Q N Nx rep j hw hN hX => ?_⟩
  obtain ⟨d, h, n⟩ := hw
  obtain ⟨v, e, r⟩ := rep.get h
  exact ⟨v, e, hN d θ M v (.refl rep.ok) j r n⟩
theorem ex_own (i : Nat) {x : Str} (hN : X.N[i]? = some x := by rfl) (hv : Vis X.env.scope x := by first | exact Or.inl rfl | exact Or.inr (Or.inl rfl) | exact Or.inr (Or.inr rfl)) (hd : (x == ("__debug__" : Str)) = false := by decide)
    (hcd : (x == ("__classdict__" : Str)) = false := by decide) : EX X L Wx .r (.Name x pos) (wOwn i) := by
  refine ⟨_, pe_var hN hv hd hcd, fun H0 M σ ρ θ Q N Nx rep j hw hN hX => ?_⟩
  obtain ⟨ds, h, n⟩ := hw
  obtain ⟨a, xs, e, g, z, _, hx, r⟩ := rep.getOwn h
  exact ⟨_, e, hN _ θ M _ (.refl rep.ok) j (.inr ⟨a, xs, ds, rfl, rfl, hx, g, z, r⟩) n⟩
theorem ex_const {e : Expr} {v : V} {d : PyData} (h : PE X e (tC v)) (r : ∀ G, Dr G v d) : EX X L Wx .s e (wC d) :=
  ⟨_, h, fun H0 M σ ρ θ Q N Nx rep j hw hN hX => hN (.py d) θ M v (.refl rep.ok) j (r _) hw⟩
theorem ex_int {i : Int} {j : Nat} : EX X L Wx .s (.Constant (.int i) j pos) (wC (.int i)) := ex_const pe_int fun _ => .int i
theorem ex_bl {i : Bool} {j : Nat} : EX X L Wx .s (.Constant (.bool i) j pos) (wC (.bool i)) := ex_const pe_bl fun _ => .bl i
theorem ex_non {j : Nat} : EX X L Wx .s (.Constant .none j pos) (wC .none) := ex_const pe_non fun _ => .non
theorem ex_str {x : Str} {j : Nat} : EX X L Wx .s (.Constant (.str x) j pos) (wC (.str x)) := ex_const pe_str fun _ => .str x
theorem ex_gint {x : Str} {i : Int} (hg : Gl X x) (hm : ∃ t, X.mg x = some (.int i t)) (hd : (x == ("__debug__" : Str)) = false := by decide) : EX X L Wx .s (.Name x pos) (wC (.int i)) := by
  obtain ⟨t, hm⟩ := hm
  exact ex_const (pe_glob (v := .int i) hg hm ⟨t, rfl⟩ hd) fun _ => .int i
theorem ex_gstr {x z : Str} (hg : Gl X x) (hm : ∃ t, X.mg x = some (.str z t)) (hd : (x == ("__debug__" : Str)) = false := by decide) : EX X L Wx .s (.Name x pos) (wC (.str z)) := by
  obtain ⟨t, hm⟩ := hm
  exact ex_const (pe_glob (v := .str z) hg hm ⟨t, rfl⟩ hd) fun _ => .str z
theorem EX.rd {e : Expr} (h : EX X L Wx m e wa) : EX X L Wx .r e wa := by
  obtain ⟨t, h1, h2⟩ := h
  exact ⟨t, h1, fun H0 M σ ρ θ Q N Nx rep j hw hN hX => h2 H0 M σ ρ θ Q N Nx rep j hw (fun d θ' M' v e j r n => hN d θ' M' v e j r.r n) hX⟩
/-! ### operators -/
abbrev F2 := D → D → Option D
structure OpD (X : Cx) (C : EK → Addr) (g : Value → Value → Sem Value) (f : F2) (okc : D → D → Prop) : Prop where
  ex : ∃ r, OpR X g r ∧ ∀ (M : Wd) (x y : V) (dx dy d : D) (Q : VK), M.Ok → Re C .r M x dx → Re C .r M y dy → f dx dy = some d → okc dx dy → (∀ M' v, Ext0 M M' → Rv C M'.G v d → Q v M'.H) → r x y M.H Q
def wOp {Θ : Type} (f : F2) (okc : D → D → Prop) (wa wb : WE Θ) : WE Θ := fun ρ θ N Nx => wa ρ θ (fun x θ1 => wb ρ θ1 (fun y θ2 => ∃ d, f x y = some d ∧ okc x y ∧ N d θ2) Nx) Nx
theorem rx_op {m' : Md} {r : R2} {f : F2} {okc : D → D → Prop} {t u : TE} (h1 : RXe L Wx m t wa) (h2 : RXe L Wx m' u wb)
    (hr : ∀ (M : Wd) (x y : V) (dx dy d : D) (Q : VK), M.Ok → Re L.C .r M x dx → Re L.C .r M y dy → f dx dy = some d → okc dx dy → (∀ M' v, Ext0 M M' → Rv L.C M'.G v d → Q v M'.H) → r x y M.H Q) : RXe L Wx .s (tOp r t u) (wOp f okc wa wb) := by
  intro H0 M σ ρ θ Q N Nx rep j hw hN hX
  refine h1 H0 M σ ρ θ _ _ Nx rep j hw (fun x θ1 M1 v1 e1 j1 r1 n1 => ?_) hX
  refine h2 H0 M1 σ ρ θ1 _ _ Nx (rep.ext e1) j1 n1 (fun y θ2 M2 v2 e2 j2 r2 n2 => ?_) (fun k θ' M' e j n => hX k θ' M' (e1.trans e) j n)
  obtain ⟨d, hf, hok, n⟩ := n2
  exact hr M2 v1 v2 x y d Q e2.ok (r1.ext e2).r r2.r hf hok (fun M' v e r => hN d θ2 M' v (e1.trans (e2.trans e.1)) (L.ext0 e j2) r n)
theorem ex_op {m' : Md} {op : Operator} {f : F2} {okc : D → D → Prop} (o : OpD X L.C (binaryOp op) f okc) (ha : EX X L Wx m a wa) (hb : EX X L Wx m' b wb) : EX X L Wx .s (.BinOp a op b pos) (wOp f okc wa wb) := by
  obtain ⟨r, o1, o2⟩ := o
  obtain ⟨t, a1, a2⟩ := ha
  obtain ⟨u, b1, b2⟩ := hb
  exact ⟨_, pe_op o1 a1 b1, rx_op a2 b2 o2⟩
theorem ex_cmp {m' : Md} {op : CmpOp} {f : F2} {okc : D → D → Prop} (o : OpD X L.C (compareOp op) f okc) (ha : EX X L Wx m a wa) (hb : EX X L Wx m' b wb) (hm : behindInMarks op b = false := by first | exact nomark _ | rfl) : EX X L Wx .s (.Compare a [op] [b] pos) (wOp f okc wa wb) := by
  obtain ⟨r, o1, o2⟩ := o
  obtain ⟨t, a1, a2⟩ := ha
  obtain ⟨u, b1, b2⟩ := hb
  exact ⟨_, pe_cmpR o1 a1 b1 hm, rx_op a2 b2 o2⟩
def wT {Θ : Type} (w : WE Θ) : WT Θ := fun ρ θ N Nx => w ρ θ (fun d θ' => ∃ b, d = .py (.bool b) ∧ N b θ') Nx
theorem rx_test {t : TE} (h : RXe L Wx .s t wa) : RXt L Wx (tTest t) (wT wa) := by
  intro H0 M σ ρ θ Q N Nx rep j hw hN hX
  refine h H0 M σ ρ θ _ _ Nx rep j hw (fun x θ1 M1 v1 e1 j1 r1 n1 => ?_) hX
  obtain ⟨b, rfl, n⟩ := n1
  cases (show Dr M1.G v1 (.bool b) from r1)
  exact ⟨b, rfl, hN b θ1 M1 e1 j1 n⟩
theorem tx_cmp {m' : Md} {op : CmpOp} {f : F2} {okc : D → D → Prop} (o : OpD X L.C (compareOp op) f okc) (ha : EX X L Wx m a wa) (hb : EX X L Wx m' b wb) (hm : behindInMarks op b = false := by first | exact nomark _ | rfl) : TX X L Wx (.Compare a [op] [b] pos) (wT (wOp f okc wa wb)) := by
  obtain ⟨r, o1, o2⟩ := o
  obtain ⟨t, a1, a2⟩ := ha
  obtain ⟨u, b1, b2⟩ := hb
  exact ⟨_, pt_cmpR o1 a1 b1 hm, rx_test (rx_op a2 b2 o2)⟩
theorem tx_val {e : Expr} (h : EX X L Wx .s e wa) (he : ∀ whole, isTrue e X.env whole = (do let v ← whole; standAt e.pos; holding [v] (truthy v)) := by intro _; rfl) : TX X L Wx e (wT wa) := by
  obtain ⟨t, h1, h2⟩ := h
  exact ⟨_, pt_val h1 he, rx_test h2⟩
/-- a < b < c -/
def wChain {Θ : Type} (f : F2) (okc : D → D → Prop) (f' : F2) (okc' : D → D → Prop) (wa wb wc : WE Θ) : WE Θ := fun ρ θ N Nx => wa ρ θ (fun x θ1 => wb ρ θ1 (fun y θ2 => ∃ k, f x y = some (.py (.bool k)) ∧ okc x y ∧
  if k = true then wc ρ θ2 (fun z θ3 => ∃ d, f' y z = some d ∧ okc' y z ∧ N d θ3) Nx else N (.py (.bool false)) θ2) Nx) Nx
theorem rx_chain {m' m'' : Md} {wc : WE L.Θ} {r r' : R2} {f f' : F2} {okc okc' : D → D → Prop} {t u s : TE} (h1 : RXe L Wx m t wa) (h2 : RXe L Wx m' u wb) (h3 : RXe L Wx m'' s wc)
    (hr : ∀ (M : Wd) (x y : V) (dx dy d : D) (Q : VK), M.Ok → Re L.C .r M x dx → Re L.C .r M y dy → f dx dy = some d → okc dx dy → (∀ M' v, Ext0 M M' → Rv L.C M'.G v d → Q v M'.H) → r x y M.H Q)
    (hr' : ∀ (M : Wd) (x y : V) (dx dy d : D) (Q : VK), M.Ok → Re L.C .r M x dx → Re L.C .r M y dy → f' dx dy = some d → okc' dx dy → (∀ M' v, Ext0 M M' → Rv L.C M'.G v d → Q v M'.H) → r' x y M.H Q) : RXe L Wx .s (tChain r r' t u s) (wChain f okc f' okc' wa wb wc) := by
  intro H0 M σ ρ θ Q N Nx rep j hw hN hX
  refine h1 H0 M σ ρ θ _ _ Nx rep j hw (fun x θ1 M1 v1 e1 j1 r1 n1 => ?_) hX
  refine h2 H0 M1 σ ρ θ1 _ _ Nx (rep.ext e1) j1 n1 (fun y θ2 M2 v2 e2 j2 r2 n2 => ?_) (fun k θ' M' e j n => hX k θ' M' (e1.trans e) j n)
  obtain ⟨k, hf, hok, n⟩ := n2
  refine hr M2 v1 v2 x y _ _ e2.ok (r1.ext e2).r r2.r hf hok (fun M3 v3 e3 r3 => ?_)
  cases (show Dr M3.G v3 (.bool k) from r3)
  refine ⟨k, rfl, ?_⟩
  have j3 := L.ext0 e3 j2
  have e13 := e1.trans (e2.trans e3.1)
  cases k with
  | false => exact hN (.py (.bool false)) θ2 M3 _ e13 j3 (Dr.bl false) n
  | true =>
    refine h3 H0 M3 σ ρ θ2 _ _ Nx (rep.ext e13) j3 n (fun z θ4 M4 v4 e4 j4 r4 n4 => ?_) (fun k θ' M' e j n => hX k θ' M' (e13.trans e) j n)
    obtain ⟨d, hf', hok', n⟩ := n4
    exact hr' M4 v2 v4 y z d Q e4.ok ((r2.ext e3.1).ext e4).r r4.r hf' hok' (fun M' v e r => hN d θ4 M' v (e13.trans (e4.trans e.1)) (L.ext0 e j4) r n)
theorem ex_chain {m' m'' : Md} {wc : WE L.Θ} {op op' : CmpOp} {f f' : F2} {okc okc' : D → D → Prop} (o : OpD X L.C (compareOp op) f okc) (o' : OpD X L.C (compareOp op') f' okc') (ha : EX X L Wx m a wa) (hb : EX X L Wx m' b wb) (hc : EX X L Wx m'' c wc) (hm : lastMarks [op, op'] [b, c] = false := by with_unfolding_all rfl) : EX X L Wx .s (.Compare a [op, op'] [b, c] pos) (wChain f okc f' okc' wa wb wc) := by
  obtain ⟨r, o1, o2⟩ := o
  obtain ⟨r', o1', o2'⟩ := o'
  obtain ⟨t, a1, a2⟩ := ha
  obtain ⟨u, b1, b2⟩ := hb
  obtain ⟨s, c1, c2⟩ := hc
  exact ⟨_, pe_chain o1 o1' a1 b1 c1 hm, rx_chain a2 b2 c2 o2 o2'⟩
theorem tx_chain {m' m'' : Md} {wc : WE L.Θ} {op op' : CmpOp} {f f' : F2} {okc okc' : D → D → Prop} (o : OpD X L.C (compareOp op) f okc) (o' : OpD X L.C (compareOp op') f' okc') (ha : EX X L Wx m a wa) (hb : EX X L Wx m' b wb) (hc : EX X L Wx m'' c wc) (hm : lastMarks [op, op'] [b, c] = false := by with_unfolding_all rfl) : TX X L Wx (.Compare a [op, op'] [b, c] pos) (wT (wChain f okc f' okc' wa wb wc)) := by
  obtain ⟨r, o1, o2⟩ := o
  obtain ⟨r', o1', o2'⟩ := o'
  obtain ⟨t, a1, a2⟩ := ha
  obtain ⟨u, b1, b2⟩ := hb
  obtain ⟨s, c1, c2⟩ := hc
  exact ⟨_, pt_chain o1 o1' a1 b1 c1 hm, rx_test (rx_chain a2 b2 c2 o2 o2')⟩
/-! ### and, or, not, if -/
def wAndT {Θ : Type} (ta tb : WT Θ) : WT Θ := fun ρ θ N Nx => ta ρ θ (fun c θ1 => if c = true then tb ρ θ1 N Nx else N false θ1) Nx
def wOrT {Θ : Type} (ta tb : WT Θ) : WT Θ := fun ρ θ N Nx => ta ρ θ (fun c θ1 => if c = true then N true θ1 else tb ρ θ1 N Nx) Nx
def wNotT {Θ : Type} (ta : WT Θ) : WT Θ := fun ρ θ N Nx => ta ρ θ (fun c θ1 => N (!c) θ1) Nx
theorem TW.tx {e : Expr} (h : TW X L Wx e ta) : TX X L Wx e ta := by
  obtain ⟨t, h1, h2⟩ := h
  exact ⟨t, h1.pt, h2⟩
theorem tw_and1 (ha : TX X L Wx a ta) : TW X L Wx (.BoolOp .And [a] pos) ta := by
  obtain ⟨t, h1, h2⟩ := ha
  exact ⟨t, pw_and1 h1, h2⟩
theorem tw_or1 (ha : TX X L Wx a ta) : TW X L Wx (.BoolOp .Or [a] pos) ta := by
  obtain ⟨t, h1, h2⟩ := ha
  exact ⟨t, pw_or1 h1, h2⟩
theorem tw_and (ha : TX X L Wx a ta) (hb : TW X L Wx (.BoolOp .And (b :: rest) pos) tb) : TW X L Wx (.BoolOp .And (a :: b :: rest) pos) (wAndT ta tb) := by
  obtain ⟨t, a1, a2⟩ := ha
  obtain ⟨u, b1, b2⟩ := hb
  refine ⟨_, pw_and a1 b1, fun H0 M σ ρ θ Q N Nx rep j hw hN hX => ?_⟩
  refine a2 H0 M σ ρ θ _ _ Nx rep j hw (fun k θ1 M1 e1 j1 n1 => ?_) hX
  cases k with
  | false => exact hN false θ1 M1 e1 j1 n1
  | true => exact b2 H0 M1 σ ρ θ1 _ _ Nx (rep.ext e1) j1 n1 (fun k θ' M' e j n => hN k θ' M' (e1.trans e) j n) (fun k θ' M' e j n => hX k θ' M' (e1.trans e) j n)
theorem tw_or (ha : TX X L Wx a ta) (hb : TW X L Wx (.BoolOp .Or (b :: rest) pos) tb) : TW X L Wx (.BoolOp .Or (a :: b :: rest) pos) (wOrT ta tb) := by
  obtain ⟨t, a1, a2⟩ := ha
  obtain ⟨u, b1, b2⟩ := hb
  refine ⟨_, pw_or a1 b1, fun H0 M σ ρ θ Q N Nx rep j hw hN hX => ?_⟩
  refine a2 H0 M σ ρ θ _ _ Nx rep j hw (fun k θ1 M1 e1 j1 n1 => ?_) hX
  cases k with
  | true => exact hN true θ1 M1 e1 j1 n1
  | false => exact b2 H0 M1 σ ρ θ1 _ _ Nx (rep.ext e1) j1 n1 (fun k θ' M' e j n => hN k θ' M' (e1.trans e) j n) (fun k θ' M' e j n => hX k θ' M' (e1.trans e) j n)
theorem tx_not (ha : TX X L Wx a ta) : TX X L Wx (.UnaryOp .Not a pos) (wNotT ta) := by
  obtain ⟨t, a1, a2⟩ := ha
  exact ⟨_, pt_not a1, fun H0 M σ ρ θ Q N Nx rep j hw hN hX => a2 H0 M σ ρ θ _ _ Nx rep j hw (fun k θ1 M1 e1 j1 n1 => hN _ θ1 M1 e1 j1 n1) hX⟩
def wAnd {Θ : Type} (wa wb : WE Θ) : WE Θ := fun ρ θ N Nx => wa ρ θ (fun x θ1 => ∃ c, x = .py (.bool c) ∧ if c = true then wb ρ θ1 N Nx else N (.py (.bool false)) θ1) Nx
def wOr {Θ : Type} (wa wb : WE Θ) : WE Θ := fun ρ θ N Nx => wa ρ θ (fun x θ1 => ∃ c, x = .py (.bool c) ∧ if c = true then N (.py (.bool true)) θ1 else wb ρ θ1 N Nx) Nx
def wNot {Θ : Type} (wa : WE Θ) : WE Θ := fun ρ θ N Nx => wa ρ θ (fun x θ1 => ∃ c, x = .py (.bool c) ∧ N (.py (.bool (!c))) θ1) Nx
theorem ex_one {op : BoolOp} (ha : EX X L Wx m a wa) : EX X L Wx m (.BoolOp op [a] pos) wa := by
  obtain ⟨t, h1, h2⟩ := ha
  exact ⟨t, pe_one h1, h2⟩
theorem ex_and (ha : EX X L Wx .s a wa) (hb : EX X L Wx .s (.BoolOp .And (b :: rest) pos) wb) : EX X L Wx .s (.BoolOp .And (a :: b :: rest) pos) (wAnd wa wb) := by
  obtain ⟨t, a1, a2⟩ := ha
  obtain ⟨u, b1, b2⟩ := hb
  refine ⟨_, pe_and a1 b1, fun H0 M σ ρ θ Q N Nx rep j hw hN hX => ?_⟩
  refine a2 H0 M σ ρ θ _ _ Nx rep j hw (fun x θ1 M1 v1 e1 j1 r1 n1 => ?_) hX
  obtain ⟨k, rfl, n⟩ := n1
  cases (show Dr M1.G v1 (.bool k) from r1)
  refine ⟨k, rfl, ?_⟩
  cases k with
  | false => exact hN (.py (.bool false)) θ1 M1 _ e1 j1 (Dr.bl false) n
  | true => exact b2 H0 M1 σ ρ θ1 _ _ Nx (rep.ext e1) j1 n (fun d θ' M' v e j r n => hN d θ' M' v (e1.trans e) j r n) (fun k θ' M' e j n => hX k θ' M' (e1.trans e) j n)
theorem ex_or (ha : EX X L Wx .s a wa) (hb : EX X L Wx .s (.BoolOp .Or (b :: rest) pos) wb) : EX X L Wx .s (.BoolOp .Or (a :: b :: rest) pos) (wOr wa wb) := by
  obtain ⟨t, a1, a2⟩ := ha
  obtain ⟨u, b1, b2⟩ := hb
  refine ⟨_, pe_or a1 b1, fun H0 M σ ρ θ Q N Nx rep j hw hN hX => ?_⟩
  refine a2 H0 M σ ρ θ _ _ Nx rep j hw (fun x θ1 M1 v1 e1 j1 r1 n1 => ?_) hX
  obtain ⟨k, rfl, n⟩ := n1
  cases (show Dr M1.G v1 (.bool k) from r1)
  refine ⟨k, rfl, ?_⟩
  cases k with
  | true => exact hN (.py (.bool true)) θ1 M1 _ e1 j1 (Dr.bl true) n
  | false => exact b2 H0 M1 σ ρ θ1 _ _ Nx (rep.ext e1) j1 n (fun d θ' M' v e j r n => hN d θ' M' v (e1.trans e) j r n) (fun k θ' M' e j n => hX k θ' M' (e1.trans e) j n)
theorem ex_not (ha : EX X L Wx .s a wa) : EX X L Wx .s (.UnaryOp .Not a pos) (wNot wa) := by
  obtain ⟨t, a1, a2⟩ := ha
  refine ⟨_, pe_not a1, fun H0 M σ ρ θ Q N Nx rep j hw hN hX => ?_⟩
  refine a2 H0 M σ ρ θ _ _ Nx rep j hw (fun x θ1 M1 v1 e1 j1 r1 n1 => ?_) hX
  obtain ⟨k, rfl, n⟩ := n1
  cases (show Dr M1.G v1 (.bool k) from r1)
  exact ⟨k, rfl, hN (.py (.bool (!k))) θ1 M1 _ e1 j1 (Dr.bl _) n⟩
def wIf {Θ : Type} (t : WT Θ) (wa wb : WE Θ) : WE Θ := fun ρ θ N Nx => t ρ θ (fun c θ1 => if c = true then wa ρ θ1 N Nx else wb ρ θ1 N Nx) Nx
theorem ex_if {t : WT L.Θ} (hc : TX X L Wx c t) (ha : EX X L Wx m a wa) (hb : EX X L Wx m b wb) : EX X L Wx m (.IfExp c a b pos) (wIf t wa wb) := by
  obtain ⟨u, c1, c2⟩ := hc
  obtain ⟨t, a1, a2⟩ := ha
  obtain ⟨u, b1, b2⟩ := hb
  refine ⟨_, pe_ifExp c1 a1 b1, fun H0 M σ ρ θ Q N Nx rep j hw hN hX => ?_⟩
  refine c2 H0 M σ ρ θ _ _ Nx rep j hw (fun k θ1 M1 e1 j1 n1 => ?_) hX
  cases k with
  | true => exact a2 H0 M1 σ ρ θ1 _ _ Nx (rep.ext e1) j1 n1 (fun d θ' M' v e j r n => hN d θ' M' v (e1.trans e) j r n) (fun k θ' M' e j n => hX k θ' M' (e1.trans e) j n)
  | false => exact b2 H0 M1 σ ρ θ1 _ _ Nx (rep.ext e1) j1 n1 (fun d θ' M' v e j r n => hN d θ' M' v (e1.trans e) j r n) (fun k θ' M' e j n => hX k θ' M' (e1.trans e) j n)
/-! ### argument lists, displays -/
def wNil {Θ : Type} : WA Θ := fun _ θ N _ => N [] θ
def wCons {Θ : Type} (wa : WE Θ) (wr : WA Θ) : WA Θ := fun ρ θ N Nx => wa ρ θ (fun x θ1 => wr ρ θ1 (fun xs θ2 => N (x :: xs) θ2) Nx) Nx
theorem paired_ext {C : EK → Addr} {M M' : Wd} (e : Ext M M') {vs : List V} {ds : List D} (h : Paired (Re C m M) vs ds) : Paired (Re C m M') vs ds := Paired.mapP h fun _ _ r => r.ext e
theorem ax_nil : AX X L Wx m [] wNil := ⟨_, pa_nil, fun H0 M σ ρ θ Q N Nx rep j hw hN hX => hN [] θ M [] (.refl rep.ok) j .nil hw⟩
theorem ax_cons {e : Expr} {es : List Expr} {wr : WA L.Θ} (ha : EX X L Wx m e wa) (hr : AX X L Wx m es wr) (hs : starEach (e :: es) X.env = (false, eval e X.env) :: starEach es X.env := by rfl) : AX X L Wx m (e :: es) (wCons wa wr) := by
  obtain ⟨t, a1, a2⟩ := ha
  obtain ⟨u, b1, b2⟩ := hr
  refine ⟨_, pa_cons a1 b1 hs, fun H0 M σ ρ θ Q N Nx rep j hw hN hX => ?_⟩
  refine a2 H0 M σ ρ θ _ _ Nx rep j hw (fun x θ1 M1 v1 e1 j1 r1 n1 => ?_) hX
  exact b2 H0 M1 σ ρ θ1 _ _ Nx (rep.ext e1) j1 n1 (fun ds θ' M' vs e j r n => hN (x :: ds) θ' M' (v1 :: vs) (e1.trans e) j (.cons (r1.ext e) r) n) (fun k θ' M' e j n => hX k θ' M' (e1.trans e) j n)
def pys : List D → Option (List PyData)
  | [] => some []
  | .py d :: r => (pys r).map (d :: ·)
  | _ :: _ => none
theorem pys_dr {C : EK → Addr} {M : Wd} : ∀ {xs : List D} {ds : List PyData} {vs : List V}, pys xs = some ds → Paired (Re C .s M) vs xs → DrAll M.G vs ds
  | [], _, _, h, .nil => by
    cases h
    exact .nil
  | .py d :: r, ds, _, h, .cons (a := v) h1 h2 => by
    have h' : (pys r).map (d :: ·) = some ds := h
    cases e : pys r with
    | none =>
      rw [e] at h'
      cases h'
    | some es =>
      rw [e] at h'
      have h'' : d :: es = ds := Option.some.inj h'
      subst h''
      exact .cons h1 (pys_dr e h2)
  | .ex _ :: _, _, _, h, _ => by cases h
  | .rf _ :: _, _, _, h, _ => by cases h
def wDisp {Θ : Type} (mk : List PyData → PyData) (wr : WA Θ) : WE Θ := fun ρ θ N Nx => wr ρ θ (fun xs θ1 => ∃ ds, pys xs = some ds ∧ ds.length ≤ sizeLine ∧ N (.py (mk ds)) θ1) Nx
theorem ex_tup {es : List Expr} {wr : WA L.Θ} {k : Nat} (h : AX X L Wx .s es wr) : EX X L Wx .s (.Tuple es k pos) (wDisp .tuple wr) := by
  obtain ⟨t, a1, a2⟩ := h
  refine ⟨_, pe_tup a1, fun H0 M σ ρ θ Q N Nx rep j hw hN hX => ?_⟩
  refine a2 H0 M σ ρ θ _ _ Nx rep j hw (fun xs θ1 M1 vs e1 j1 r1 n1 => ?_) hX
  obtain ⟨ds, hp, hl, n⟩ := n1
  have dr := pys_dr hp r1
  refine ⟨by rw [dr.len]; exact hl, fun p np => ?_⟩
  have e2 := Ext0.add e1.ok (o := .tup vs) np
  exact hN (.py (.tuple ds)) θ1 (M1.add p (.tup vs)) _ (e1.trans e2.1) (L.ext0 e2 j1) (Dr.tup add_at (dr.mono e2.1.g)) n
theorem ex_lst {es : List Expr} {wr : WA L.Θ} (h : AX X L Wx .s es wr) : EX X L Wx .s (.List es pos) (wDisp .list wr) := by
  obtain ⟨t, a1, a2⟩ := h
  refine ⟨_, pe_lst a1, fun H0 M σ ρ θ Q N Nx rep j hw hN hX => ?_⟩
  refine a2 H0 M σ ρ θ _ _ Nx rep j hw (fun xs θ1 M1 vs e1 j1 r1 n1 => ?_) hX
  obtain ⟨ds, hp, hl, n⟩ := n1
  have dr := pys_dr hp r1
  refine ⟨by rw [dr.len]; exact hl, fun p np => ?_⟩
  have e2 := Ext0.add e1.ok (o := .lst vs) np
  exact hN (.py (.list ds)) θ1 (M1.add p (.lst vs)) _ (e1.trans e2.1) (L.ext0 e2 j1) (Dr.lst add_at (dr.mono e2.1.g)) n
end
/-! ### calls of defs -/
abbrev Spec (Θ : Type) := List D → Θ → (D → Θ → Prop) → (EK → Θ → Prop) → Prop
abbrev Spec0 := List D → (D → Prop) → (EK → Prop) → Prop
def SpD (L : Vl) (spec : Spec L.Θ) : Sp := fun vs H Q E => ∃ (M : Wd) (θ : L.Θ) (ds : List D) (N : D → L.Θ → Prop) (Nx : EK → L.Θ → Prop), M.H = H ∧ M.Ok ∧ L.at θ M ∧ Paired (Re L.C .s M) vs ds ∧ spec ds θ N Nx ∧
  (∀ d θ' M' v, Ext M M' → L.at θ' M' → Rv L.C M'.G v d → N d θ' → Q v M'.H) ∧ ∀ k θ' M', Ext M M' → L.at θ' M' → Nx k θ' → E (.ref (L.C k)) none M'.H
def Spec0.up (s : Spec0) : Spec Unit := fun ds _ N Nx => s ds (fun d => N d ()) (fun k => Nx k ())
structure CalD (P : Program) (w : World) (K : PySem.W.Frag) (mg : Str → Option Value) (base : Heap) (k : Nat) (x : Str) (L : Vl) (spec : Spec L.Θ) : Prop where
  ex : ∃ (f : Addr) (fd : FuncData) (ps : List Str), FnOk P w K mg base (L2.CX P w) k f fd ps (SpD L spec) ∧ mg x = some (.ref f) ∧ PySem.W.keepIn K (.ref f) = true ∧ Binds K fd ps []
theorem CalD.mono {P : Program} {w : World} {K : PySem.W.Frag} {mg : Str → Option Value} {base : Heap} {j k : Nat} {x : Str} {spec : Spec L.Θ} (c : CalD P w K mg base j x L spec) (h : j ≤ k) : CalD P w K mg base k x L spec := by
  obtain ⟨f, fd, ps, F, a, b, e⟩ := c
  exact ⟨f, fd, ps, F.mono h, a, b, e⟩
section
variable {k : Nat} {x : Str} {p pos : Pos} {e : Expr} {es : List Expr} {wr : WA L.Θ}
theorem pe_callS0 {X : Cx} {CX : CXT} {f : Addr} {fd : FuncData} {ps : List Str} {sp : Sp} {E : L2.St → XK} (F : FnOk X.prog X.w X.K X.mg X.base CX k f fd ps sp) (hr : Room k X.A) (hg : Gl X x) (hm : X.mg x = some (.ref f)) (hk : PySem.W.keepIn X.K (.ref f) = true) (hb : Binds X.K fd ps []) (hx : ∀ σ, PassesAt CX X σ (E σ))
    (hdb : (x == ("__debug__" : Str)) = false := by decide) : PE X (.Call (.Name x p) [] [] pos) (tCallS sp E tNil) := by
  refine ⟨fun pins s σ H Q I h => ?_⟩
  refine wpAny_Call_Name_kw (ld_glob I hg hm ?_ hdb)
  exact PySem.W.callWith_K0 I.kIn hk (run_fnS (us := []) F hr hb (hx σ) I .nil h)
def wCall {Θ : Type} (spec : Spec Θ) (wr : WA Θ) : WE Θ := fun ρ θ N Nx => wr ρ θ (fun ds θ1 => spec ds θ1 N Nx) Nx
theorem rx_call {spec : Spec L.Θ} {t : TA} (h : RXa L Wx .s t wr) : RXe L Wx .s (tCallS (SpD L spec) (L2.WE Wx) t) (wCall spec wr) := by
  intro H0 M σ ρ θ Q N Nx rep j hw hN hX
  refine h H0 M σ ρ θ _ _ Nx rep j hw (fun ds θ1 M1 vs e1 j1 r1 n1 => ?_) hX
  exact ⟨M1, θ1, ds, N, Nx, rfl, e1.ok, j1, r1, n1, fun d θ' M' v e j r n => hN d θ' M' v (e1.trans e) j r n, fun k θ' M' e j n => hX k θ' M' (e1.trans e) j n⟩
theorem ex_call {spec : Spec L.Θ} (tk : Takes X Wx) (c : CalD X.prog X.w X.K X.mg X.base k x L spec) (hr : Room k X.A) (hg : Gl X x) (ha : AX X L Wx .s (e :: es) wr) (hdb : (x == ("__debug__" : Str)) = false := by decide) (he : starEach (e :: es) X.env = (false, eval e X.env) :: starEach es X.env := by rfl) (hpl : (backTo pos (starEach es X.env)).any (·.1) = false := by rfl) :
    EX X L Wx .s (.Call (.Name x p) (e :: es) [] pos) (wCall spec wr) := by
  obtain ⟨f, fd, ps, F, hm, hk, hb⟩ := c
  obtain ⟨t, a1, a2⟩ := ha
  exact ⟨_, pe_callS F hr hg hm hk hb (fun σ => passAt tk σ) a1 hdb he hpl, rx_call a2⟩
theorem ex_callN {spec : Spec L.Θ} (tk : Takes X Wx) (c : CalD X.prog X.w X.K X.mg X.base k x L spec) (hr : Room k X.A) (hg : Gl X x) (hdb : (x == ("__debug__" : Str)) = false := by decide) :
    EX X L Wx .s (.Call (.Name x p) [] [] pos) (wCall spec wNil) := by
  obtain ⟨f, fd, ps, F, hm, hk, hb⟩ := c
  exact ⟨_, pe_callS0 F hr hg hm hk hb (fun σ => passAt tk σ) hdb, rx_call fun H0 M σ ρ θ Q N Nx rep j hw hN hX => hN [] θ M [] (.refl rep.ok) j .nil hw⟩
/-- a def that keeps nothing beside, called where something is kept -/
def wCall0 {Θ : Type} (spec : Spec0) (wr : WA Θ) : WE Θ := fun ρ θ N Nx => wr ρ θ (fun ds θ1 => spec ds (fun d => N d θ1) (fun k => Nx k θ1)) Nx
theorem ext_up {M1 M' : Wd} (ok : M1.Ok) (e : Ext ⟨M1.G, fun _ => none, M1.H⟩ M') : Ext M1 ⟨M'.G, M1.Z, M'.H⟩ := by
  refine ⟨⟨e.ok.g, fun b o h => (e.k b o (ok.z _ _ h) rfl).1, fun b o h => ?_⟩, e.g, e.t, fun b o h z => ?_⟩
  · cases q : M1.Z b with
    | none => rfl
    | some u =>
      have g := (e.k b u (ok.z _ _ q) rfl).2.1
      have h' : M'.G b = some o := h
      have g' : M'.G b = M1.G b := g
      rw [g'] at h'
      rw [ok.d _ _ h'] at q
      cases q
  · obtain ⟨h1, h2, _⟩ := e.k b o h rfl
    exact ⟨h1, h2, z⟩
theorem rx_call0 {spec : Spec0} {t : TA} (h : RXa L Wx .s t wr) : RXe L Wx .s (tCallS (SpD (V0 L.C) spec.up) (L2.WE Wx) t) (wCall0 spec wr) := by
  intro H0 M σ ρ θ Q N Nx rep j hw hN hX
  refine h H0 M σ ρ θ _ _ Nx rep j hw (fun ds θ1 M1 vs e1 j1 r1 n1 => ?_) hX
  refine ⟨⟨M1.G, fun _ => none, M1.H⟩, (), ds, fun d _ => N d θ1, fun k _ => Nx k θ1, rfl, ⟨e1.ok.g, fun b o h => (by cases h), fun _ _ _ => rfl⟩, fun _ => rfl, r1, n1, fun d _ M' v e _ r n => ?_, fun k _ M' e _ n => ?_⟩
  · have e2 := ext_up e1.ok e
    exact hN d θ1 ⟨M'.G, M1.Z, M'.H⟩ v (e1.trans e2) (L.mono e2.g j1) r n
  · have e2 := ext_up e1.ok e
    exact hX k θ1 ⟨M'.G, M1.Z, M'.H⟩ (e1.trans e2) (L.mono e2.g j1) n
theorem ex_call0 {spec : Spec0} (tk : Takes X Wx) (c : CalD X.prog X.w X.K X.mg X.base k x (V0 L.C) spec.up) (hr : Room k X.A) (hg : Gl X x) (ha : AX X L Wx .s (e :: es) wr) (hdb : (x == ("__debug__" : Str)) = false := by decide) (he : starEach (e :: es) X.env = (false, eval e X.env) :: starEach es X.env := by rfl) (hpl : (backTo pos (starEach es X.env)).any (·.1) = false := by rfl) :
    EX X L Wx .s (.Call (.Name x p) (e :: es) [] pos) (wCall0 spec wr) := by
  obtain ⟨f, fd, ps, F, hm, hk, hb⟩ := c
  obtain ⟨t, a1, a2⟩ := ha
  exact ⟨_, pe_callS F hr hg hm hk hb (fun σ => passAt tk σ) a1 hdb he hpl, rx_call0 a2⟩
theorem ex_callN0 {spec : Spec0} (tk : Takes X Wx) (c : CalD X.prog X.w X.K X.mg X.base k x (V0 L.C) spec.up) (hr : Room k X.A) (hg : Gl X x) (hdb : (x == ("__debug__" : Str)) = false := by decide) :
    EX X L Wx .s (.Call (.Name x p) [] [] pos) (wCall0 spec wNil) := by
  obtain ⟨f, fd, ps, F, hm, hk, hb⟩ := c
  exact ⟨_, pe_callS0 F hr hg hm hk hb (fun σ => passAt tk σ) hdb, rx_call0 fun H0 M σ ρ θ Q N Nx rep j hw hN hX => hN [] θ M [] (.refl rep.ok) j .nil hw⟩
end
end RT
end
section
set_option Elab.async false
set_option linter.all false
set_option maxRecDepth 100000
set_option maxHeartbeats 2000000
namespace RT
open PySem PySem.Spec PyProof.Rows L2
/-! ### statements -/
structure EN (Θ : Type) where
  nx : DS → Θ → Prop
  rt : D → Θ → Prop
  bk : DS → Θ → Prop := fun _ _ => False
  ct : DS → Θ → Prop := fun _ _ => False
  ex : EK → Θ → Prop := fun _ _ => False
abbrev WS (Θ : Type) := EN Θ → DS → Θ → Prop
structure Fits (L : Vl) (Wx : WX) (M0 : Wd) (G : Hp) (E : Ends) (N : EN L.Θ) : Prop where
  nx : ∀ M σ ρ θ, Ext M0 M → Same G M.G → Rep L.C M0.H M σ ρ → L.at θ M → N.nx ρ θ → E.nx σ M.H
  rt : ∀ M v d θ, Ext M0 M → L.at θ M → Rv L.C M.G v d → N.rt d θ → E.rt v M.H
  bk : ∀ M σ ρ θ, Ext M0 M → Same G M.G → Rep L.C M0.H M σ ρ → L.at θ M → N.bk ρ θ → E.bk σ M.H
  ct : ∀ M σ ρ θ, Ext M0 M → Same G M.G → Rep L.C M0.H M σ ρ → L.at θ M → N.ct ρ θ → E.ct σ M.H
  ex : ∀ M σ k θ, Ext M0 M → L.at θ M → N.ex k θ → Wx (.ref (L.C k)) none σ M.H
theorem Fits.up {L : Vl} {Wx : WX} {M0 : Wd} {G G' : Hp} {E : Ends} {N : EN L.Θ} (f : Fits L Wx M0 G E N) (s : Same G G') : Fits L Wx M0 G' E N :=
  ⟨fun M σ ρ θ e g => f.nx M σ ρ θ e (s.trans g), f.rt, fun M σ ρ θ e g => f.bk M σ ρ θ e (s.trans g), fun M σ ρ θ e g => f.ct M σ ρ θ e (s.trans g), f.ex⟩
def RXs (L : Vl) (Wx : WX) (t : TS) (w : WS L.Θ) : Prop := ∀ (M0 M : Wd) (σ : L2.St) (ρ : DS) (θ : L.Θ) (E : Ends) (N : EN L.Θ), Ext M0 M → Rep L.C M0.H M σ ρ → L.at θ M → w N ρ θ → Fits L Wx M0 M.G E N → t E σ M.H
structure SX (X : Cx) (L : Vl) (Wx : WX) (st : Stmt) (w : WS L.Θ) : Prop where
  ex : ∃ t, PS X st t ∧ RXs L Wx t w
structure SXs (X : Cx) (L : Vl) (Wx : WX) (st : List Stmt) (w : WS L.Θ) : Prop where
  ex : ∃ t, PSs X st t ∧ RXs L Wx t w
variable {X : Cx} {L : Vl} {Wx : WX} {st : Stmt} {rest : List Stmt} {w u : WS L.Θ} {e : Expr} {we : WE L.Θ} {m : Md} {pos : Pos}
/-! ### blocks -/
def wNext {Θ : Type} : WS Θ := fun N ρ θ => N.nx ρ θ
def wSeq {Θ : Type} (w u : WS Θ) : WS Θ := fun N ρ θ => w { N with nx := fun ρ' θ' => u N ρ' θ' } ρ θ
theorem sxs_nil : SXs X L Wx [] wNext := ⟨_, pss_nil, fun M0 M σ ρ θ E N e rep j hw f => f.nx M σ ρ θ e (Same.refl _) rep j hw⟩
theorem sxs_cons (h1 : SX X L Wx st w) (h2 : SXs X L Wx rest u) : SXs X L Wx (st :: rest) (wSeq w u) := by
  obtain ⟨t, a1, a2⟩ := h1
  obtain ⟨s, b1, b2⟩ := h2
  refine ⟨_, pss_cons a1 b1, fun M0 M σ ρ θ E N e rep j hw f => ?_⟩
  exact a2 M0 M σ ρ θ { E with nx := s E } { N with nx := fun ρ' θ' => u N ρ' θ' } e rep j hw ⟨fun M' σ' ρ' θ' e' g' rep' j' n' => b2 M0 M' σ' ρ' θ' E N e' rep' j' n' (f.up g'), f.rt, f.bk, f.ct, f.ex⟩
theorem sxs_one (h1 : SX X L Wx st w) : SXs X L Wx [st] w := by
  obtain ⟨t, a1, a2⟩ := h1
  exact ⟨_, pss_one a1, a2⟩
def wNever {Θ : Type} : WS Θ := fun _ _ _ => False
theorem sxs_never {sts : List Stmt} : SXs X L Wx sts wNever := ⟨_, pss_never, fun _ _ _ _ _ _ _ _ _ _ h _ => h.elim⟩
theorem sx_never : SX X L Wx st wNever := ⟨_, ps_never, fun _ _ _ _ _ _ _ _ _ _ h _ => h.elim⟩
theorem sx_pass : SX X L Wx (.Pass pos) wNext := ⟨_, ps_pass, fun M0 M σ ρ θ E N e rep j hw f => f.nx M σ ρ θ e (Same.refl _) rep j hw⟩
/-! ### stores -/
def wSet {Θ : Type} (i : Nat) (we : WE Θ) : WS Θ := fun N ρ θ => we ρ θ (fun d θ' => N.nx (ρ.set i (.is d)) θ') N.ex
theorem rs_set {i : Nat} {te : TE} (h : RXe L Wx .s te we) : RXs L Wx (tAsg te (gName i)) (wSet i we) := by
  intro M0 M σ ρ θ E N e rep j hw f
  exact h M0.H M σ ρ θ _ _ N.ex rep j hw (fun d θ' M' v e' j' r n => f.nx M' _ _ θ' (e.trans e') e'.g ((rep.ext e').set i r) j' n) (fun k θ' M' e' j' n => f.ex M' σ k θ' (e.trans e') j' n)
theorem sx_set (i : Nat) {x : Str} {pos' : Pos} (hN : X.N.Nodup) (he : EX X L Wx .s e we) (hi : X.N[i]? = some x := by rfl) (hx : Loc X.env.scope x := by first | exact Or.inl rfl | exact Or.inr rfl) (hs : swapsWith e (some (.Name x pos')) pos.line X.env = pure false := by rfl)
    (hf : X.fn x = true ∨ X.env.scope.names.lookup x = some .local := by first | exact .inl rfl | exact .inr rfl | assumption) : SX X L Wx (.Assign [.Name x pos'] e pos) (wSet i we) := by
  obtain ⟨t, a1, a2⟩ := he
  exact ⟨_, ps_set hN hi hx a1 hs hf, rs_set a2⟩
theorem ext_put {M0 M : Wd} (e : Ext M0 M) {p : Addr} {o : HO} (g : M.G p = none) (z : M.Z p = none) (h0 : M0.H p = none) : Ext M0 (M.put p o) := by
  refine ⟨put_ok e.ok g z, e.g, fun b h => ?_, fun b x h hz => ?_⟩
  · by_cases hb : b = p
    · rw [hb]
      exact h0
    · have h' : upd M.H p o b = none := h
      rw [upd_ne hb] at h'
      exact e.t _ h'
  · obtain ⟨k1, k2, k3⟩ := e.k b x h hz
    refine ⟨?_, k2, k3⟩
    show upd M.H p o b = some x
    rw [upd_ne (ne_of_none h h0)]
    exact k1
def wNew {Θ : Type} (i : Nat) : WS Θ := fun N ρ θ => N.nx (ρ.set i (.own [])) θ
theorem sx_new (i : Nat) {x : Str} {pos' pos2 : Pos} (hN : X.N.Nodup) (hi : X.N[i]? = some x := by rfl) (hx : Loc X.env.scope x := by first | exact Or.inl rfl | exact Or.inr rfl) (hs : swapsWith (.List [] pos2) (some (.Name x pos')) pos.line X.env = pure false := by rfl)
    (hf : X.fn x = true ∨ X.env.scope.names.lookup x = some .local := by first | exact .inl rfl | exact .inr rfl | assumption) : SX X L Wx (.Assign [.Name x pos'] (.List [] pos2) pos) (wNew i) := by
  refine ⟨_, ps_set hN hi hx (pe_lst pa_nil) hs hf, fun M0 M σ ρ θ E N e rep j hw f => ?_⟩
  refine ⟨Nat.zero_le _, fun p np => ?_⟩
  exact f.nx (M.put p (.lst [])) _ _ θ (ext_put e (rep.ok.free np).1 (rep.ok.free np).2 (e.t p np)) (Same.refl _) (rep.newOwn i np (e.t p np) .nil) j hw
/-- a value at the slot i, the one list of it written -/
theorem ps_aug' {i : Nat} {x : Str} {e : Expr} {te : TE} {op : Operator} {r : R2} {pos pos' : Pos} (hN : X.N.Nodup) (hi : X.N[i]? = some x) (hx : Loc X.env.scope x) (he : PE X e te) (ho : OpR X (inplaceOp op) r) (hf : X.fn x = true ∨ X.env.scope.names.lookup x = some .local) :
    PS X (.AugAssign (.Name x pos') op e pos) (tAug i te r) := ps_aug hN hi hx he ho hf
def wAug {Θ : Type} (i : Nat) (f : F2) (okc : D → D → Prop) (we : WE Θ) : WS Θ := fun N ρ θ => ∃ x, ρ[i]? = some (.is x) ∧ we ρ θ (fun y θ' => ∃ d, f x y = some d ∧ okc x y ∧ N.nx (ρ.set i (.is d)) θ') N.ex
theorem sx_aug (i : Nat) {x : Str} {op : Operator} {f : F2} {okc : D → D → Prop} {pos' : Pos} (hN : X.N.Nodup) (o : OpD X L.C (inplaceOp op) f okc) (he : EX X L Wx m e we) (hi : X.N[i]? = some x := by rfl) (hx : Loc X.env.scope x := by first | exact Or.inl rfl | exact Or.inr rfl)
    (hf : X.fn x = true ∨ X.env.scope.names.lookup x = some .local := by first | exact .inl rfl | exact .inr rfl | assumption) : SX X L Wx (.AugAssign (.Name x pos') op e pos) (wAug i f okc we) := by
  obtain ⟨r, o1, o2⟩ := o
  obtain ⟨t, a1, a2⟩ := he
  refine ⟨_, ps_aug' hN hi hx a1 o1 hf, fun M0 M σ ρ θ E N e rep j hw f => ?_⟩
  obtain ⟨d0, h0, hw⟩ := hw
  obtain ⟨v0, s0, r0⟩ := rep.get h0
  refine ⟨v0, s0, ?_⟩
  refine a2 M0.H M σ ρ θ _ _ N.ex rep j hw (fun y θ1 M1 v1 e1 j1 r1 n1 => ?_) (fun k θ' M' e' j' n => f.ex M' σ k θ' (e.trans e') j' n)
  obtain ⟨d, hf, hok, n⟩ := n1
  refine o2 M1 v0 v1 d0 y d _ e1.ok (.inl (r0.mono e1.g)) r1.r hf hok fun M' v e' r => ?_
  have e2 := e1.trans e'.1
  exact f.nx M' _ _ θ1 (e.trans e2) e2.g ((rep.ext e2).set i r) (L.ext0 e' j1) n
/-! ### own lists -/
theorem set_self {σ : L2.St} {i : Nat} {x : Option V} (h : σ[i]? = some x) : σ.set i x = σ := by
  apply List.ext_getElem?
  intro j
  by_cases e : i = j
  · subst e
    rw [List.getElem?_set_self (lt_of_get h)]
    exact h.symm
  · rw [List.getElem?_set_ne e]
/-- the own list at slot i, written by what follows -/
theorem own_write {M0 M : Wd} {σ : L2.St} {ρ : DS} {θ : L.Θ} {E : Ends} {N : EN L.Θ} {i : Nat} {ds es : List PyData} {a : Addr} {ys : List V} (e : Ext M0 M) (rep : Rep L.C M0.H M σ ρ) (j : L.at θ M) (h : ρ[i]? = some (.own ds)) (ha : σ[i]? = some (some (.ref a)))
    (hy : DrAll M.G ys es) (n : N.nx (ρ.set i (.own es)) θ) {G : Hp} (g : Same G M.G) (f : Fits L Wx M0 G E N) : E.nx σ (upd M.H a (.lst ys)) := by
  obtain ⟨a', xs, s', g1, z1, h0, hx, r⟩ := rep.getOwn h
  have ea : a' = a := by
    have q := s'.symm.trans ha
    injection q with q
    injection q with q
    injection q
  subst ea
  exact f.nx (M.put a' (.lst ys)) σ _ θ (ext_put e g1 z1 h0) g (rep.put h ha g1 z1 hy) j n
/-- x += a list -/
def wExtend {Θ : Type} (i : Nat) (we : WE Θ) : WS Θ := fun N ρ θ => ∃ ds, ρ[i]? = some (.own ds) ∧ we ρ θ (fun y θ' => ∃ es, y = .py (.list es) ∧ ds.length + es.length ≤ sizeLine ∧ N.nx (ρ.set i (.own (ds ++ es))) θ') N.ex
theorem sx_extend (i : Nat) {x : Str} {pos' : Pos} (hN : X.N.Nodup) (he : EX X L Wx m e we) (hi : X.N[i]? = some x := by rfl) (hx : Loc X.env.scope x := by first | exact Or.inl rfl | exact Or.inr rfl)
    (hf : X.fn x = true ∨ X.env.scope.names.lookup x = some .local := by first | exact .inl rfl | exact .inr rfl | assumption) : SX X L Wx (.AugAssign (.Name x pos') .Add e pos) (wExtend i we) := by
  obtain ⟨t, a1, a2⟩ := he
  refine ⟨_, ps_aug' hN hi hx a1 iop_ext hf, fun M0 M σ ρ θ E N e rep j hw f => ?_⟩
  obtain ⟨ds, h, hw⟩ := hw
  obtain ⟨a, xs, s0, _⟩ := rep.getOwn h
  refine ⟨_, s0, ?_⟩
  refine a2 M0.H M σ ρ θ _ _ N.ex rep j hw (fun y θ1 M1 v1 e1 j1 r1 n1 => ?_) (fun k θ' M' e' j' n => f.ex M' σ k θ' (e.trans e') j' n)
  obtain ⟨es, rfl, hl, n⟩ := n1
  obtain ⟨b, zs, rfl, hb, rz⟩ := Re.list e1.ok r1.r
  have rep1 := rep.ext e1
  obtain ⟨a', xs', s', g1, z1, h0, hx', rx⟩ := rep1.getOwn h
  have ea : a' = a := by
    have q := s'.symm.trans s0
    injection q with q
    injection q with q
    injection q
  subst ea
  refine ⟨a', b, xs', zs, rfl, rfl, hx', hb, by rw [rx.len, rz.len]; exact hl, ?_⟩
  show E.nx (σ.set i (some (.ref a'))) _
  rw [set_self s0]
  exact own_write (e.trans e1) rep1 j1 h s0 (rx.append rz) n e1.g f
/-- x.append(e) -/
def wAppend {Θ : Type} (i : Nat) (we : WE Θ) : WS Θ := fun N ρ θ => ∃ ds, ρ[i]? = some (.own ds) ∧ we ρ θ (fun y θ' => ∃ d, y = .py d ∧ ds.length < sizeLine ∧ N.nx (ρ.set i (.own (ds ++ [d]))) θ') N.ex
theorem sx_append (i : Nat) {x : Str} {p1 p2 p3 : Pos} (he : EX X L Wx .s e we) (hN : X.N[i]? = some x := by rfl) (hv : Vis X.env.scope x := by first | exact Or.inl rfl | exact Or.inr (Or.inl rfl) | exact Or.inr (Or.inr rfl)) (hd : (x == ("__debug__" : Str)) = false := by decide)
    (hcd : (x == ("__classdict__" : Str)) = false := by decide) (hbase : attributeBase (.Name x p1) "append" X.env (eval (.Name x p1) X.env) = eval (.Name x p1) X.env := by rfl)
    (hfew : ((backTo p3 (starEach [e] X.env)).all (fun x => !x.1) && (backToKw p3 (keywordEach [] X.env)).all (fun x => x.1.isSome) && decide ([e].length + ([] : List Keyword).length + (if ([] : List Keyword).isEmpty then 0 else 1) < 30)) = true := by rfl)
    (hline : (p2.endLine == p3.line) = true := by rfl) (hs : starEach [e] X.env = (false, eval e X.env) :: starEach [] X.env := by rfl) (hplain : (backTo p3 (starEach [] X.env)).any (·.1) = false := by rfl)
    (hsw : swapsWith (.Call (.Attribute (.Name x p1) "append" p2) [e] [] p3) none pos.line X.env = pure false := by rfl) :
    SX X L Wx (.Expr (.Call (.Attribute (.Name x p1) "append" p2) [e] [] p3) pos) (wAppend i we) := by
  obtain ⟨t, a1, a2⟩ := he
  refine ⟨_, ps_expr (pe_bm PySem.F.plainAttrs_list PySem.F.slot_list_append PySem.F.type_list_append mt_append (pe_var hN hv hd hcd) (pa_cons a1 pa_nil hs) hbase hfew hline hs hplain) hsw, fun M0 M σ ρ θ E N e rep j hw f => ?_⟩
  obtain ⟨ds, h, hw⟩ := hw
  obtain ⟨a, xs, s0, g0, z0, h0, hx0, _⟩ := rep.getOwn h
  refine ⟨_, s0, .inl ⟨rfl, xs, .of hx0⟩, ?_⟩
  refine a2 M0.H M σ ρ θ _ _ N.ex rep j hw (fun y θ1 M1 v1 e1 j1 r1 n1 => ?_) (fun k θ' M' e' j' n => f.ex M' σ k θ' (e.trans e') j' n)
  obtain ⟨d, rfl, hl, n⟩ := n1
  have rep1 := rep.ext e1
  obtain ⟨a', xs', s', g1, z1, h1, hx', rx⟩ := rep1.getOwn h
  have ea : a' = a := by
    have q := s'.symm.trans s0
    injection q with q
    injection q with q
    injection q
  subst ea
  refine ⟨a', xs', v1, rfl, rfl, hx', by rw [rx.len]; exact hl, ?_⟩
  exact own_write (e.trans e1) rep1 j1 h s0 (rx.append (.one (show Dr M1.G v1 d from r1))) n e1.g f
/-- x[k] = e, x an own list, k an int -/
def wPut {Θ : Type} (i : Nat) (we wk : WE Θ) : WS Θ := fun N ρ θ => we ρ θ (fun y θ1 => ∃ d ds, y = .py d ∧ ρ[i]? = some (.own ds) ∧ wk ρ θ1 (fun z θ2 => ∃ k n, z = .py (.int k) ∧ ixN ds.length k = some n ∧ N.nx (ρ.set i (.own (ds.set n d))) θ2) N.ex) N.ex
theorem sx_put (i : Nat) {x : Str} {p1 p2 : Pos} {ix : Expr} {wk : WE L.Θ} (he : EX X L Wx .s e we) (hk : EX X L Wx .s ix wk) (hN : X.N[i]? = some x := by rfl) (hv : Vis X.env.scope x := by first | exact Or.inl rfl | exact Or.inr (Or.inl rfl) | exact Or.inr (Or.inr rfl)) (hd : (x == ("__debug__" : Str)) = false := by decide)
    (hcd : (x == ("__classdict__" : Str)) = false := by decide)
    (ha : ∀ v, assign (.Subscript (.Name x p1) ix p2) X.env v = (do
      let ov ← holding [v] (eval (.Name x p1) X.env)
      let iv ← holding [v, ov] (eval ix X.env)
      standAt p2
      holding [v, ov, iv] (setItem ov iv v)
      release [v, ov, iv] []) := by intro _; rfl)
    (hs : swapsWithSole [.Subscript (.Name x p1) ix p2] e pos.line X.env = pure false := by rfl) (hw : swappedStores [.Subscript (.Name x p1) ix p2] e X.env = pure none := by rfl)
    (h1 : (assignEach [.Subscript (.Name x p1) ix p2] X.env).map (·.2) = [assign (.Subscript (.Name x p1) ix p2) X.env] := by rfl) :
    SX X L Wx (.Assign [.Subscript (.Name x p1) ix p2] e pos) (wPut i we wk) := by
  obtain ⟨t, a1, a2⟩ := he
  obtain ⟨s, b1, b2⟩ := hk
  refine ⟨_, ps_asg a1 (pg_sub (pe_var hN hv hd hcd) b1 set_list ha) hs hw h1, fun M0 M σ ρ θ E N e rep j hw f => ?_⟩
  refine a2 M0.H M σ ρ θ _ _ N.ex rep j hw (fun y θ1 M1 v1 e1 j1 r1 n1 => ?_) (fun k θ' M' e' j' n => f.ex M' σ k θ' (e.trans e') j' n)
  obtain ⟨d, ds, rfl, h, n1⟩ := n1
  have rep1 := rep.ext e1
  obtain ⟨a, xs, s0, g0, z0, h0, hx0, _⟩ := rep1.getOwn h
  refine ⟨_, s0, ?_⟩
  refine b2 M0.H M1 σ ρ θ1 _ _ N.ex rep1 j1 n1 (fun y θ2 M2 v2 e2 j2 r2 n2 => ?_) (fun k θ' M' e' j' n => f.ex M' σ k θ' (e.trans (e1.trans e')) j' n)
  obtain ⟨k, n, rfl, hk, nn⟩ := n2
  have rep2 := rep1.ext e2
  obtain ⟨a', xs', s', g1, z1, h1, hx', rx⟩ := rep2.getOwn h
  have ea : a' = a := by
    have q := s'.symm.trans s0
    injection q with q
    injection q with q
    injection q
  subst ea
  cases (show Dr M2.G v2 (.int k) from r2)
  refine ⟨a', xs', k, n, rfl, rfl, hx', by rw [rx.len]; exact hk, ?_⟩
  exact own_write (e.trans (e1.trans e2)) rep2 j2 h s0 (DrAll.set n (Dr.mono e2.g r1) rx) nn (e1.g.trans e2.g) f
/-- the own list of slot i is not written any more -/
def wFrz {Θ : Type} (i : Nat) (w : WS Θ) : WS Θ := fun N ρ θ => ∃ ds, ρ[i]? = some (.own ds) ∧ w N (ρ.set i (.is (.py (.list ds)))) θ
def Wd.frz (M : Wd) (a : Addr) (o : HO) : Wd := ⟨upd M.G a o, M.Z, M.H⟩
theorem ext_frz {M0 M : Wd} (e : Ext M0 M) {a : Addr} {o : HO} (h : M.H a = some o) (g : M.G a = none) (z : M.Z a = none) (h0 : M0.H a = none) : Ext M0 (M.frz a o) ∧ Same M.G (M.frz a o).G := by
  have sg : Same M.G (upd M.G a o) := upd_same_of g
  refine ⟨⟨⟨fun b x q => ?_, e.ok.z, fun b x q => ?_⟩, e.g.trans sg, e.t, fun b x q zz => ?_⟩, sg⟩
  · by_cases hb : b = a
    · subst hb
      have q' : upd M.G b o b = some x := q
      rw [upd_same] at q'
      rw [← q']
      exact h
    · have q' : upd M.G a o b = some x := q
      rw [upd_ne hb] at q'
      exact e.ok.g _ _ q'
  · by_cases hb : b = a
    · rw [hb]
      exact z
    · have q' : upd M.G a o b = some x := q
      rw [upd_ne hb] at q'
      exact e.ok.d _ _ q'
  · obtain ⟨k1, k2, k3⟩ := e.k b x q zz
    refine ⟨k1, ?_, k3⟩
    show upd M.G a o b = _
    rw [upd_ne (ne_of_none q h0)]
    exact k2
theorem rep_frz {C : EK → Addr} {H0 : Hp} {M : Wd} {σ : L2.St} {ρ : DS} (r : Rep C H0 M σ ρ) {i : Nat} {ds : List PyData} (h : ρ[i]? = some (.own ds)) {a : Addr} {xs : List V} (s0 : σ[i]? = some (some (.ref a))) (hx : M.H a = some (.lst xs)) (g : M.G a = none) (rx : DrAll M.G xs ds) (ok : (M.frz a (.lst xs)).Ok) :
    Rep C H0 (M.frz a (.lst xs)) σ (ρ.set i (.is (.py (.list ds)))) := by
  have sg : Same M.G (upd M.G a (.lst xs)) := upd_same_of g
  obtain ⟨am, h1, h2⟩ := r.sl
  have hi := h2 i _ h
  have ea : am i = a := by
    have q := hi.1.symm.trans s0
    injection q with q
    injection q with q
    injection q
  refine ⟨ok, by rw [List.length_set]; exact r.len, am, fun j k d1 d2 hj hk e => ?_, fun j x hj => ?_⟩
  · rcases get_set hj with ⟨_, q⟩ | ⟨_, q1⟩
    · cases q
    · rcases get_set hk with ⟨_, q⟩ | ⟨_, q2⟩
      · cases q
      · exact h1 j k _ _ q1 q2 e
  · rcases get_set hj with ⟨rfl, q⟩ | ⟨ne, q⟩
    · subst q
      exact ⟨.ref a, s0, Dr.lst upd_same (rx.mono sg)⟩
    · have s := h2 j x q
      cases x with
      | no => trivial
      | is d =>
        obtain ⟨v, e1, e2⟩ := s
        exact ⟨v, e1, e2.mono sg⟩
      | own d2 =>
        obtain ⟨e1, e2, e3, e4, ys, hy, r'⟩ := s
        refine ⟨e1, ?_, e3, e4, ys, hy, r'.mono sg⟩
        show upd M.G a (.lst xs) (am j) = none
        rw [upd_ne ?_]
        · exact e2
        · intro q'
          exact ne (h1 i j _ _ h q (ea.trans q'.symm))
theorem sxs_frz (i : Nat) {sts : List Stmt} (h : SXs X L Wx sts w) : SXs X L Wx sts (wFrz i w) := by
  obtain ⟨t, a1, a2⟩ := h
  refine ⟨t, a1, fun M0 M σ ρ θ E N e rep j hw f => ?_⟩
  obtain ⟨ds, h, hw⟩ := hw
  obtain ⟨a, xs, s0, g0, z0, h0, hx0, rx⟩ := rep.getOwn h
  obtain ⟨e', sg⟩ := ext_frz e hx0 g0 z0 h0
  exact a2 M0 (M.frz a (.lst xs)) σ _ θ E N e' (rep_frz rep h s0 hx0 g0 rx e'.ok) (L.mono sg j) hw (f.up sg)
/-! ### return, expressions, if -/
def wRet {Θ : Type} (we : WE Θ) : WS Θ := fun N ρ θ => we ρ θ N.rt N.ex
theorem sx_ret (he : EX X L Wx .s e we) : SX X L Wx (.Return (some e) pos) (wRet we) := by
  obtain ⟨t, a1, a2⟩ := he
  exact ⟨_, ps_ret a1, fun M0 M σ ρ θ E N e rep j hw f => a2 M0.H M σ ρ θ _ _ N.ex rep j hw (fun d θ' M' v e' j' r n => f.rt M' v d θ' (e.trans e') j' r n) (fun k θ' M' e' j' n => f.ex M' σ k θ' (e.trans e') j' n)⟩
def wRetOwn {Θ : Type} (i : Nat) : WS Θ := fun N ρ θ => ∃ ds, ρ[i]? = some (.own ds) ∧ N.rt (.py (.list ds)) θ
theorem sx_retOwn (i : Nat) {x : Str} {p1 : Pos} (hN : X.N[i]? = some x := by rfl) (hv : Vis X.env.scope x := by first | exact Or.inl rfl | exact Or.inr (Or.inl rfl) | exact Or.inr (Or.inr rfl)) (hd : (x == ("__debug__" : Str)) = false := by decide)
    (hcd : (x == ("__classdict__" : Str)) = false := by decide) : SX X L Wx (.Return (some (.Name x p1)) pos) (wRetOwn i) := by
  refine ⟨_, ps_ret (pe_var hN hv hd hcd), fun M0 M σ ρ θ E N e rep j hw f => ?_⟩
  obtain ⟨ds, h, n⟩ := hw
  obtain ⟨a, xs, s0, g0, z0, h0, hx0, rx⟩ := rep.getOwn h
  obtain ⟨e', sg⟩ := ext_frz e hx0 g0 z0 h0
  exact ⟨_, s0, f.rt (M.frz a (.lst xs)) _ (.py (.list ds)) θ e' (L.mono sg j) (Dr.lst upd_same (rx.mono sg)) n⟩
def wRetN {Θ : Type} : WS Θ := fun N _ θ => N.rt (.py .none) θ
theorem sx_retN : SX X L Wx (.Return none pos) wRetN := ⟨_, ps_retN, fun M0 M σ ρ θ E N e rep j hw f => f.rt M .non (.py .none) θ e j Dr.non hw⟩
def wDrop {Θ : Type} (we : WE Θ) : WS Θ := fun N ρ θ => we ρ θ (fun _ θ' => N.nx ρ θ') N.ex
theorem sx_expr (he : EX X L Wx m e we) (hs : swapsWith e none pos.line X.env = pure false := by rfl) : SX X L Wx (.Expr e pos) (wDrop we) := by
  obtain ⟨t, a1, a2⟩ := he
  exact ⟨_, ps_expr a1 hs, fun M0 M σ ρ θ E N e rep j hw f => a2 M0.H M σ ρ θ _ _ N.ex rep j hw (fun d θ' M' v e' j' r n => f.nx M' σ ρ θ' (e.trans e') e'.g (rep.ext e') j' n) (fun k θ' M' e' j' n => f.ex M' σ k θ' (e.trans e') j' n)⟩
def wIfS {Θ : Type} (c : WT Θ) (w u : WS Θ) : WS Θ := fun N ρ θ => c ρ θ (fun b θ' => if b = true then w N ρ θ' else u N ρ θ') N.ex
theorem sx_if {c : Expr} {tc : WT L.Θ} {a b : List Stmt} (hc : TX X L Wx c tc) (ha : SXs X L Wx a w) (hb : SXs X L Wx b u) : SX X L Wx (.If c a b pos) (wIfS tc w u) := by
  obtain ⟨t, c1, c2⟩ := hc
  obtain ⟨ta, a1, a2⟩ := ha
  obtain ⟨tb, b1, b2⟩ := hb
  refine ⟨_, ps_if c1 a1 b1, fun M0 M σ ρ θ E N e rep j hw f => ?_⟩
  refine c2 M0.H M σ ρ θ _ _ N.ex rep j hw (fun k θ' M' e' j' n => ?_) (fun k θ' M' e' j' n => f.ex M' σ k θ' (e.trans e') j' n)
  cases k with
  | true => exact a2 M0 M' σ ρ θ' E N (e.trans e') (rep.ext e') j' n (f.up e'.g)
  | false => exact b2 M0 M' σ ρ θ' E N (e.trans e') (rep.ext e') j' n (f.up e'.g)
/-! ### targets -/
def wipeD (ρ : DS) : List Nat → DS
  | [] => ρ
  | v :: vs => (wipeD ρ vs).set v .no
def Upto (is : List Nat) (σ σ' : L2.St) : Prop := σ'.length = σ.length ∧ ∀ j, j ∉ is → σ'[j]? = σ[j]?
theorem wipe_get {σ : L2.St} : ∀ {vs : List Nat} (j : Nat), (wipe σ vs)[j]? = if j ∈ vs then (if j < σ.length then some none else none) else σ[j]?
  | [], j => by simp [wipe]
  | v :: vs, j => by
    unfold wipe
    by_cases e : v = j
    · subst e
      rw [List.getElem?_set]
      simp [wipe_length]
    · rw [List.getElem?_set_ne e, wipe_get j]
      have : (j ∈ v :: vs) ↔ j ∈ vs := by
        simp only [List.mem_cons]
        exact ⟨fun h => h.elim (fun q => absurd q.symm e) id, .inr⟩
      simp only [this]
theorem Upto.wipe {is vs : List Nat} {σ σ' : L2.St} (u : Upto is σ σ') (h : ∀ i ∈ is, i ∈ vs) : L2.wipe σ' vs = L2.wipe σ vs := by
  apply List.ext_getElem?
  intro j
  rw [wipe_get, wipe_get, u.1]
  by_cases hj : j ∈ vs
  · rw [if_pos hj, if_pos hj]
  · rw [if_neg hj, if_neg hj]
    exact u.2 j fun q => hj (h j q)
theorem Rep.wipe {C : EK → Addr} {H0 : Hp} {M : Wd} {σ : L2.St} {ρ : DS} (r : Rep C H0 M σ ρ) : ∀ vs : List Nat, Rep C H0 M (L2.wipe σ vs) (wipeD ρ vs)
  | [] => r
  | v :: vs => (r.wipe vs).forget v none
abbrev WG := D → DS → (DS → Prop) → Prop
def RXg (C : EK → Addr) (is : List Nat) (t : TG) (g : WG) : Prop := ∀ (H0 : Hp) (M : Wd) (σ : L2.St) (ρ : DS) (v : V) (d : D) (Q : L2.St → Hp → Prop) (N : DS → Prop), Rep C H0 M σ ρ → Rv C M.G v d → g d ρ N → (∀ σ' ρ', Upto is σ σ' → Rep C H0 M σ' ρ' → N ρ' → Q σ' M.H) → t v σ M.H Q
structure GX (X : Cx) (C : EK → Addr) (is : List Nat) (tg : Expr) (g : WG) : Prop where
  ex : ∃ t, PG X tg t ∧ RXg C is t g
def wgName (i : Nat) : WG := fun d ρ N => N (ρ.set i (.is d))
theorem upto_set {σ : L2.St} {i : Nat} {x : Option V} : Upto [i] σ (σ.set i x) := ⟨List.length_set .., fun j hj => List.getElem?_set_ne (fun e => hj (by rw [e]; exact List.mem_singleton_self _))⟩
theorem gx_name {C : EK → Addr} (i : Nat) {x : Str} (hN : X.N.Nodup) (hi : X.N[i]? = some x := by rfl) (hx : Loc X.env.scope x := by first | exact Or.inl rfl | exact Or.inr rfl) (hf : X.fn x = true ∨ X.env.scope.names.lookup x = some .local := by first | exact .inl rfl | exact .inr rfl | assumption) : GX X C [i] (.Name x pos) (wgName i) :=
  ⟨_, pg_name hN hi hx hf, fun H0 M σ ρ v d Q N rep r hw h => h _ _ upto_set (rep.set i r) hw⟩
def setAll : List Nat → List PyData → DS → Option DS
  | [], [], ρ => some ρ
  | i :: is, d :: ds, ρ => setAll is ds (ρ.set i (.is (.py d)))
  | _, _, _ => none
def RXgs (C : EK → Addr) (is : List Nat) (t : TGs) : Prop := ∀ (H0 : Hp) (M : Wd) (σ : L2.St) (ρ ρ' : DS) (vs : List V) (ds : List PyData) (Q : L2.St → Hp → Prop), Rep C H0 M σ ρ → DrAll M.G vs ds → setAll is ds ρ = some ρ' → (∀ σ', Upto is σ σ' → Rep C H0 M σ' ρ' → Q σ' M.H) → t vs σ M.H Q
structure GXs (X : Cx) (C : EK → Addr) (is : List Nat) (tgs : List Expr) : Prop where
  ex : ∃ t, PGs X tgs t ∧ RXgs C is t
theorem gxs_nil {C : EK → Addr} : GXs X C [] [] := by
  refine ⟨_, pgs_nil, fun H0 M σ ρ ρ' vs ds Q rep dr hs h => ?_⟩
  cases dr with
  | nil =>
    cases hs
    exact ⟨rfl, h σ ⟨rfl, fun _ _ => rfl⟩ rep⟩
  | cons _ _ => cases hs
theorem gxs_cons {C : EK → Addr} (i : Nat) {is : List Nat} {x : Str} {es : List Expr} (hN : X.N.Nodup) (h : GXs X C is es) (hi : X.N[i]? = some x := by rfl) (hx : Loc X.env.scope x := by first | exact Or.inl rfl | exact Or.inr rfl) (hf : X.fn x = true ∨ X.env.scope.names.lookup x = some .local := by first | exact .inl rfl | exact .inr rfl | assumption)
    (hs : (assignEach (.Name x pos :: es) X.env).map (·.2) = assign (.Name x pos) X.env :: (assignEach es X.env).map (·.2) := by rfl) : GXs X C (i :: is) (.Name x pos :: es) := by
  obtain ⟨t, a1, a2⟩ := h
  refine ⟨_, pgs_cons (pg_name hN hi hx hf) a1 hs, fun H0 M σ ρ ρ' vs ds Q rep dr hs h => ?_⟩
  cases dr with
  | nil => cases hs
  | cons d1 d2 =>
    refine ⟨_, _, rfl, ?_⟩
    refine a2 H0 M _ _ ρ' _ _ Q (rep.set i (d := .py _) d1) d2 hs fun σ' u r' => h σ' ⟨u.1.trans (List.length_set ..), fun j hj => ?_⟩ r'
    simp only [List.mem_cons, not_or] at hj
    rw [u.2 j hj.2, List.getElem?_set_ne (Ne.symm hj.1)]
def wgTup (is : List Nat) : WG := fun d ρ N => ∃ ds ρ', d = .py (.tuple ds) ∧ setAll is ds ρ = some ρ' ∧ N ρ'
theorem setAll_len : ∀ {is : List Nat} {ds : List PyData} {ρ ρ' : DS}, setAll is ds ρ = some ρ' → ds.length = is.length
  | [], [], _, _, _ => rfl
  | i :: is, d :: ds, _, _, h => congrArg Nat.succ (setAll_len (is := is) (ds := ds) h)
  | [], _ :: _, _, _, h => by cases h
  | _ :: _, [], _, _, h => by cases h
theorem gx_tup {C : EK → Addr} {is : List Nat} {es : List Expr} {k : Nat} (hc : X.calm = true) (h : GXs X C is es) (hn : (assignEach es X.env).length = is.length := by rfl) (hst : (assignEach es X.env).findIdx? (·.1) = none := by rfl) : GX X C is (.Tuple es k pos) (wgTup is) := by
  obtain ⟨t, a1, a2⟩ := h
  refine ⟨_, pg_tup hc a1 hn hst, fun H0 M σ ρ v d Q N rep r hw h => ?_⟩
  obtain ⟨ds, ρ', rfl, hs, n⟩ := hw
  cases (show Dr M.G v (.tuple ds) from r) with
  | tup e dr => exact ⟨_, _, rfl, .of (rep.ok.g _ _ e), by rw [dr.len]; exact setAll_len hs, a2 H0 M σ ρ ρ' _ ds Q rep dr hs fun σ' u r' => h σ' ρ' u r' n⟩
/-- a, b = e -/
def wUnp {Θ : Type} (is : List Nat) (we : WE Θ) : WS Θ := fun N ρ θ => we ρ θ (fun d θ' => wgTup is d ρ fun ρ' => N.nx ρ' θ') N.ex
theorem sx_unp {is : List Nat} {tg : Expr} (he : EX X L Wx .s e we) (hg : GX X L.C is tg (wgTup is)) (hs : swapsWithSole [tg] e pos.line X.env = pure false := by rfl) (hw : swappedStores [tg] e X.env = pure none := by rfl)
    (h1 : (assignEach [tg] X.env).map (·.2) = [assign tg X.env] := by rfl) : SX X L Wx (.Assign [tg] e pos) (wUnp is we) := by
  obtain ⟨t, a1, a2⟩ := he
  obtain ⟨g, g1, g2⟩ := hg
  refine ⟨_, ps_asg a1 g1 hs hw h1, fun M0 M σ ρ θ E N e rep j hw f => ?_⟩
  refine a2 M0.H M σ ρ θ _ _ N.ex rep j hw (fun d θ' M' v e' j' r n => ?_) (fun k θ' M' e' j' n => f.ex M' σ k θ' (e.trans e') j' n)
  exact g2 M0.H M' σ ρ v d _ _ (rep.ext e') r n fun σ' ρ' _ rep' n' => f.nx M' σ' ρ' θ' (e.trans e') e'.g rep' j' n'
/-! ### loops -/
abbrev WI (Θ : Type) := DS → Θ → (List D → Θ → Prop) → (EK → Θ → Prop) → Prop
def ItD (C : EK → Addr) (J : It) (G : Hp) (ds : List D) : Prop := ∀ M : Wd, M.Ok → Same G M.G → (∀ i d, ds[i]? = some d → J.go i M.H ∧ ∀ x H', J.yld i M.H x H' → ∃ M', M'.H = H' ∧ Ext0 M M' ∧ Rv C M'.G x d) ∧ ∀ i, ds.length ≤ i → J.stop i M.H
def RXi (L : Vl) (Wx : WX) (t : TI) (w : WI L.Θ) : Prop := ∀ (H0 : Hp) (M : Wd) (σ : L2.St) (ρ : DS) (θ : L.Θ) (R : It → Hp → Prop) (N : List D → L.Θ → Prop) (Nx : EK → L.Θ → Prop), Rep L.C H0 M σ ρ → L.at θ M → w ρ θ N Nx →
  (∀ ds θ' M' J, Ext M M' → L.at θ' M' → ItD L.C J M'.G ds → N ds θ' → R J M'.H) → (∀ k θ' M', Ext M M' → L.at θ' M' → Nx k θ' → Wx (.ref (L.C k)) none σ M'.H) → t σ M.H R
structure IX (X : Cx) (L : Vl) (Wx : WX) (tg iter : Expr) (w : WI L.Θ) : Prop where
  ex : ∃ t, PI X tg iter t ∧ RXi L Wx t w
def forGo {Θ : Type} (g : WG) (body : WS Θ) (N : EN Θ) : List D → DS → Θ → Prop
  | [], ρ, θ => N.nx ρ θ
  | d :: ds, ρ, θ => g d ρ fun ρ1 => body { N with nx := fun ρ' θ' => forGo g body N ds ρ' θ', ct := fun ρ' θ' => forGo g body N ds ρ' θ', bk := N.nx } ρ1 θ
def wFor {Θ : Type} (wi : WI Θ) (g : WG) (body : WS Θ) : WS Θ := fun N ρ θ => wi ρ θ (fun ds θ' => forGo g body N ds ρ θ') N.ex
theorem sx_for {tg iter : Expr} {wi : WI L.Θ} {is : List Nat} {g : WG} {body : List Stmt} (hp : PassesOwn (model X.prog X.w) X.A X.env X.xe) (hc : X.calm = true) (hi : IX X L Wx tg iter wi) (hg : GX X L.C is tg g) (hb : SXs X L Wx body w)
    (hs : ∀ x, foldedSetIterable iter X.env x = pure x := by intro _; rfl) : SX X L Wx (.For tg iter body [] pos) (wFor wi g w) := by
  obtain ⟨ti, i1, i2⟩ := hi
  obtain ⟨tg, g1, g2⟩ := hg
  obtain ⟨tb, b1, b2⟩ := hb
  refine ⟨_, ps_for hp hc i1 g1 b1 hs, fun M0 M σ ρ θ E N e rep j hw f => ?_⟩
  refine i2 M0.H M σ ρ θ _ _ N.ex rep j hw (fun ds θ1 M1 J e1 j1 hJ n1 => ?_) (fun k θ' M' e' j' n => f.ex M' σ k θ' (e.trans e') j' n)
  refine ⟨fun i m σ H => m = ds.length - i ∧ i ≤ ds.length ∧ ∃ M' ρ' θ', M'.H = H ∧ Ext M0 M' ∧ Same M1.G M'.G ∧ Rep L.C M0.H M' σ ρ' ∧ L.at θ' M' ∧ forGo g w N (ds.drop i) ρ' θ', ⟨ds.length, by simp, Nat.zero_le _, M1, ρ, θ1, rfl, e.trans e1, Same.refl _, rep.ext e1, j1, n1⟩, ?_⟩
  rintro i k σ2 H2 ⟨rfl, hi, M2, ρ2, θ2, rfl, e2, s2, rep2, j2, n2⟩
  obtain ⟨go, stop⟩ := hJ M2 e2.ok s2
  by_cases hlt : i < ds.length
  · have hd : ds[i]? = some ds[i] := List.getElem?_eq_getElem hlt
    obtain ⟨h1, h2⟩ := go i _ hd
    rw [List.drop_eq_getElem_cons hlt] at n2
    refine .inr ⟨h1, fun σ' H' => ∃ M' ρ' θ', M'.H = H' ∧ Ext M0 M' ∧ Same M1.G M'.G ∧ Rep L.C M0.H M' σ' ρ' ∧ L.at θ' M' ∧ forGo g w N (ds.drop (i + 1)) ρ' θ', fun σ' H' q => ⟨_, by omega, rfl, hlt, q⟩, fun x H' hy => ?_⟩
    obtain ⟨M3, rfl, e3, r3⟩ := h2 x H' hy
    refine g2 M0.H M3 σ2 ρ2 x _ _ _ (rep2.ext e3.1) r3 n2 fun σ4 ρ4 _ rep4 n4 => ?_
    have sg := s2.trans e3.1.g
    refine b2 M0 M3 σ4 ρ4 θ2 _ _ (e2.trans e3.1) rep4 (L.ext0 e3 j2) n4 ⟨fun M' σ' ρ' θ' e' g' r' j' n' => ⟨M', ρ', θ', rfl, e', sg.trans g', r', j', n'⟩, f.rt, fun M' σ' ρ' θ' e' g' r' j' n' => f.nx M' σ' ρ' θ' e' (e1.g.trans (sg.trans g')) r' j' n', fun M' σ' ρ' θ' e' g' r' j' n' => ⟨M', ρ', θ', rfl, e', sg.trans g', r', j', n'⟩, f.ex⟩
  · have ei : ds.drop i = [] := List.drop_eq_nil_of_le (by omega)
    rw [ei] at n2
    exact .inl ⟨stop i (by omega), f.nx M2 σ2 ρ2 θ2 e2 (e1.g.trans s2) rep2 j2 n2⟩
def whGo {Θ : Type} (c : WT Θ) (body : WS Θ) (N : EN Θ) : Nat → DS → Θ → Prop
  | 0, _, _ => False
  | n + 1, ρ, θ => c ρ θ (fun b θ1 => if b = true then body { N with nx := fun ρ' θ' => whGo c body N n ρ' θ', ct := fun ρ' θ' => whGo c body N n ρ' θ', bk := N.nx } ρ θ1 else N.nx ρ θ1) N.ex
def wWhile {Θ : Type} (c : WT Θ) (body : WS Θ) : WS Θ := fun N ρ θ => ∃ n, whGo c body N n ρ θ
theorem sx_while {c : Expr} {tc : WT L.Θ} {body : List Stmt} (hp : PassesOwn (model X.prog X.w) X.A X.env X.xe) (hc : TX X L Wx c tc) (hb : SXs X L Wx body w) : SX X L Wx (.While c body [] pos) (wWhile tc w) := by
  obtain ⟨t, c1, c2⟩ := hc
  obtain ⟨tb, b1, b2⟩ := hb
  refine ⟨_, ps_while hp c1 b1, fun M0 M σ ρ θ E N e rep j hw f => ?_⟩
  obtain ⟨n, hw⟩ := hw
  refine ⟨fun m σ' H => ∃ M' ρ' θ', M'.H = H ∧ Ext M0 M' ∧ Same M.G M'.G ∧ Rep L.C M0.H M' σ' ρ' ∧ L.at θ' M' ∧ whGo tc w N m ρ' θ', ⟨n, M, ρ, θ, rfl, e, Same.refl _, rep, j, hw⟩, ?_⟩
  rintro m σ2 H2 ⟨M2, ρ2, θ2, rfl, e2, s2, rep2, j2, n2⟩
  cases m with
  | zero => exact n2.elim
  | succ m =>
    refine c2 M0.H M2 σ2 ρ2 θ2 _ _ N.ex rep2 j2 n2 (fun k θ' M' e' j' n => ?_) (fun k θ' M' e' j' n => f.ex M' σ2 k θ' (e2.trans e') j' n)
    have sg := s2.trans e'.g
    cases k with
    | false => exact f.nx M' σ2 ρ2 θ' (e2.trans e') sg (rep2.ext e') j' n
    | true =>
      refine ⟨fun σ' H' => ∃ M3 ρ3 θ3, M3.H = H' ∧ Ext M0 M3 ∧ Same M.G M3.G ∧ Rep L.C M0.H M3 σ' ρ3 ∧ L.at θ3 M3 ∧ whGo tc w N m ρ3 θ3, fun σ' H' q => ⟨m, Nat.lt_succ_self _, q⟩, ?_⟩
      exact b2 M0 M' σ2 ρ2 θ' _ _ (e2.trans e') (rep2.ext e') j' n ⟨fun M3 σ3 ρ3 θ3 e3 g3 r3 j3 n3 => ⟨M3, ρ3, θ3, rfl, e3, sg.trans g3, r3, j3, n3⟩, f.rt, fun M3 σ3 ρ3 θ3 e3 g3 r3 j3 n3 => f.nx M3 σ3 ρ3 θ3 e3 (sg.trans g3) r3 j3 n3, fun M3 σ3 ρ3 θ3 e3 g3 r3 j3 n3 => ⟨M3, ρ3, θ3, rfl, e3, sg.trans g3, r3, j3, n3⟩, f.ex⟩
/-! ### raise -/
structure ExcOk (K : PySem.W.Frag) (mg : Str → Option Value) (x : Str) (C : Addr) : Prop where
  g : mg x = some (.ref C)
  e : PySem.W.excIn K C [.type "ValueError", .type "Exception", .type "BaseException", .type "object"] "ValueError.__new__" = true
  kp : PySem.W.keepIn K (.ref C) = true
  b : PySem.W.subIn K (.ref C) (.type "BaseException") = some true
  t : PySem.W.typeIn K (.ref C) = some (.type "type")
def wRaise {Θ : Type} (k : EK) : WS Θ := fun N _ θ => N.ex k θ
theorem sx_raise (k : EK) {x z : Str} {j : Nat} {p p2 p3 : Pos} (hc : X.calm = true) (tk : Takes X Wx) (F : ExcOk X.K X.mg x (L.C k)) (hg : Gl X x) (hdb : (x == ("__debug__" : Str)) = false := by decide) :
    SX X L Wx (.Raise (some (.Call (.Name x p) [.Constant (.str z) j p2] [] p3)) none pos) (wRaise k) :=
  ⟨_, ps_raise hc tk (pmk_own PySem.F.excBase_ValueError F.e F.g F.kp (raises_own F.b F.t) hg hdb), fun M0 M σ ρ θ E N e rep j hw f => f.ex M σ k θ e j hw⟩
/-! ### a def -/
def startD (n : Nat) (ds : List D) : DS := ds.map Sl.is ++ List.replicate (n - ds.length) Sl.no
theorem rep_start {C : EK → Addr} {M : Wd} {N : List Str} {vs : List V} {ds : List D} (ok : M.Ok) (r : Paired (Re C .s M) vs ds) : Rep C M.H M (L2.start N vs) (startD N.length ds) := by
  have hl : vs.length = ds.length := Paired.length r
  refine ⟨ok, by unfold L2.start startD; simp [hl], fun i => i, fun i j d e h _ _ => ?_, fun i x h => ?_⟩
  · unfold startD at h
    by_cases hi : i < (ds.map Sl.is).length
    · rw [List.getElem?_append_left hi, List.getElem?_map] at h
      cases q : ds[i]? with
      | none => rw [q] at h; cases h
      | some y => rw [q] at h; cases h
    · rw [List.getElem?_append_right (Nat.le_of_not_lt hi), List.getElem?_replicate] at h
      split at h <;> cases h
  · unfold startD at h
    by_cases hi : i < (ds.map Sl.is).length
    · rw [List.getElem?_append_left hi, List.getElem?_map] at h
      cases q : ds[i]? with
      | none => rw [q] at h; cases h
      | some y =>
        rw [q] at h
        cases h
        have hv : ∃ v, vs[i]? = some v ∧ Rv C M.G v y := by
          have gen : ∀ {vs : List V} {ds : List D} {i : Nat} {y : D}, Paired (Re C .s M) vs ds → ds[i]? = some y → ∃ v, vs[i]? = some v ∧ Rv C M.G v y := by
            intro vs ds i y r
            induction r generalizing i with
            | nil => intro q; simp at q
            | cons h _ ih =>
              intro q
              cases i with
              | zero =>
                simp at q
                subst q
                exact ⟨_, rfl, h⟩
              | succ i => simpa using ih (by simpa using q)
          exact gen r q
        obtain ⟨v, e1, e2⟩ := hv
        refine ⟨v, ?_, e2⟩
        unfold L2.start
        rw [List.getElem?_append_left (by rw [List.length_map, hl]; simpa using hi), List.getElem?_map, e1]
        rfl
    · rw [List.getElem?_append_right (Nat.le_of_not_lt hi), List.getElem?_replicate] at h
      split at h <;> cases h
      trivial
/-- the spec that a body's reading gives -/
def bodyEN {Θ : Type} (N : D → Θ → Prop) (Nx : EK → Θ → Prop) : EN Θ := { nx := fun _ θ => N (.py .none) θ, rt := N, ex := Nx }
abbrev WxE (E : XK) : WX := fun cls d _ H => E cls d H
section
variable {P : Program} {w : World} {K : PySem.W.Frag} {mg : Str → Option Value} {base : Heap}
theorem def_ok {x qual : Str} {params : Arguments} {body : List Stmt} {scope : Scope} {f : Addr} {fd : FuncData} {N ps : List Str} {k : Nat} {L : Vl} {spec : Spec L.Θ} {wb : WS L.Θ} (F : FunD K x qual params body scope [] [] f fd) (S : FnScope N ps scope)
    (len : ∀ ds θ N Nx, spec ds θ N Nx → ds.length = ps.length) (hw : ∀ ds θ Nn Nx, spec ds θ Nn Nx → wb (bodyEN Nn Nx) (startD N.length ds) θ)
    (hbody : ∀ (cdv : Value) (A : Around) (outer : List Env) (s : Shared) (H : Hp) (E : XK), Room k (A.deeper (envOfC qual scope s.heap.objs.size f cdv)) → SXs (cxOf (L2.CX P w) P w K mg base N qual scope f cdv A outer s H E) L (WxE E) body wb) :
    FnOk P w K mg base (L2.CX P w) (k + 1) f fd ps (SpD L spec) := by
  refine F.ok S (fun vs H Q E h => ?_) (fun cdv A outer s H vs Q E hr h => ?_)
  · obtain ⟨M, θ, ds, Nn, Nx, _, _, _, r, sp, _⟩ := h
    rw [Paired.length r]
    exact len _ _ _ _ sp
  · obtain ⟨M, θ, ds, Nn, Nx, rfl, ok, j, r, sp, h1, h2⟩ := h
    obtain ⟨t, a1, a2⟩ := hbody cdv A outer s M.H E hr
    refine ⟨t, a1, a2 M M _ _ θ _ (bodyEN Nn Nx) (.refl ok) (rep_start ok r) j (hw ds θ Nn Nx sp) ⟨fun M' σ ρ θ' e _ _ j' n => h1 (.py .none) θ' M' _ e j' Dr.non n, fun M' v d θ' e j' r' n => h1 d θ' M' v e j' r' n, fun _ _ _ _ _ _ _ _ q => q.elim, fun _ _ _ _ _ _ _ _ q => q.elim, fun M' σ k θ' e j' n => h2 k θ' M' e j' n⟩⟩
theorem cal_of {x qual : Str} {params : Arguments} {body : List Stmt} {scope : Scope} {f : Addr} {fd : FuncData} {ps : List Str} {k : Nat} {L : Vl} {spec : Spec L.Θ} (F : FunD K x qual params body scope [] [] f fd) (G : FnOk P w K mg base (L2.CX P w) k f fd ps (SpD L spec)) (hm : mg x = some (.ref f)) (hb : Binds K fd ps []) : CalD P w K mg base k x L spec :=
  ⟨f, fd, ps, G, hm, F.kp, hb⟩
end
end RT
end
section
set_option Elab.async false
set_option linter.all false
set_option maxRecDepth 100000
set_option maxHeartbeats 2000000
namespace RT
open PySem PySem.Spec PyProof.Rows L2
variable {X : Cx} {L : Vl} {Wx : WX} {C : EK → Addr} {m m' : Md} {e a b : Expr} {es : List Expr} {we wa wb : WE L.Θ} {wr : WA L.Θ} {pos p p2 : Pos}
/-! ### new objects as results -/
theorem ext0_add {M : Wd} (ok : M.Ok) {p : Addr} {o : HO} (h : M.H p = none) : Ext0 M (M.add p o) := .add ok h
theorem new_lst {M : Wd} {Q : VK} {vs : List V} {ds : List PyData} (ok : M.Ok) (dr : DrAll M.G vs ds) (q : ∀ M' v, Ext0 M M' → Rv C M'.G v (.py (.list ds)) → Q v M'.H) : ∀ p, M.H p = none → Q (.ref p) (upd M.H p (.lst vs)) := fun p np => by
  have x := Ext0.add ok (o := .lst vs) np
  exact q (M.add p (.lst vs)) (.ref p) x (Dr.lst add_at (dr.mono x.1.g))
theorem new_tup {M : Wd} {Q : VK} {vs : List V} {ds : List PyData} (ok : M.Ok) (dr : DrAll M.G vs ds) (q : ∀ M' v, Ext0 M M' → Rv C M'.G v (.py (.tuple ds)) → Q v M'.H) : ∀ p, M.H p = none → Q (.ref p) (upd M.H p (.tup vs)) := fun p np => by
  have x := Ext0.add ok (o := .tup vs) np
  exact q (M.add p (.tup vs)) (.ref p) x (Dr.tup add_at (dr.mono x.1.g))
/-! ### + - * // % -/
def fAdd : F2
  | .py (.int i), .py (.int j) => some (.py (.int (i + j)))
  | .py (.str s), .py (.str t) => some (.py (.str (s ++ t)))
  | .py (.list s), .py (.list t) => some (.py (.list (s ++ t)))
  | .py (.tuple s), .py (.tuple t) => some (.py (.tuple (s ++ t)))
  | _, _ => none
def kAdd : D → D → Prop
  | .py (.str s), .py (.str t) => s.length + t.length ≤ sizeLine
  | .py (.list s), .py (.list t) => s.length + t.length ≤ sizeLine
  | .py (.tuple s), .py (.tuple t) => s.length + t.length ≤ sizeLine
  | _, _ => True
theorem o_add : OpD X C (binaryOp .Add) fAdd kAdd := by
  refine ⟨_, op_add.or (op_add_str.or (op_cat.or op_catA)), fun M x y dx dy d Q ok rx ry hf hk q => ?_⟩
  unfold fAdd at hf
  split at hf
  · cases hf
    exact .inl ⟨_, _, rx.int, ry.int, q M _ (.refl ok) (Dr.int _)⟩
  · cases hf
    exact .inr (.inl ⟨_, _, rx.str, ry.str, hk, q M _ (.refl ok) (Dr.str _)⟩)
  · cases hf
    obtain ⟨a, xs, e1, h1, r1⟩ := Re.list ok rx
    obtain ⟨b, ys, e2, h2, r2⟩ := Re.list ok ry
    have hk' : _ + _ ≤ sizeLine := hk
    exact .inr (.inr (.inl ⟨a, b, xs, ys, e1, e2, h1, h2, by rw [r1.len, r2.len]; exact hk', new_lst ok (r1.append r2) q⟩))
  · cases hf
    obtain ⟨a, xs, e1, h1, r1⟩ := Re.tuple ok rx
    obtain ⟨b, ys, e2, h2, r2⟩ := Re.tuple ok ry
    have hk' : _ + _ ≤ sizeLine := hk
    refine .inr (.inr (.inr ⟨a, b, xs, ys, e1, e2, .of h1, .of h2, by rw [r1.len, r2.len]; exact hk', fun h0 => ?_, fun _ h0 => ?_, fun _ _ => new_tup ok (r1.append r2) q⟩))
    · subst h0
      cases r1
      rcases ry with ry | ⟨_, _, _, _, e3, _⟩
      · rw [← e2]
        exact q M y (.refl ok) ry
      · cases e3
    · subst h0
      cases r2
      rcases rx with rx | ⟨_, _, _, _, e3, _⟩
      · rw [← e1, List.append_nil] at *
        exact q M x (.refl ok) rx
      · cases e3
  · cases hf
def fSub : F2
  | .py (.int i), .py (.int j) => some (.py (.int (i - j)))
  | _, _ => none
def kTrue : D → D → Prop := fun _ _ => True
theorem o_sub : OpD X C (binaryOp .Sub) fSub kTrue := by
  refine ⟨_, op_sub, fun M x y dx dy d Q ok rx ry hf hk q => ?_⟩
  unfold fSub at hf
  split at hf
  · cases hf
    exact ⟨_, _, rx.int, ry.int, q M _ (.refl ok) (Dr.int _)⟩
  · cases hf
def fMul : F2
  | .py (.int i), .py (.int j) => some (.py (.int (i * j)))
  | .py (.list s), .py (.int j) => some (.py (.list (List.replicate j.toNat s).flatten))
  | _, _ => none
def kMul : D → D → Prop
  | .py (.int i), .py (.int j) => CMul i j
  | .py (.list s), .py (.int j) => -(2 ^ 63) ≤ j ∧ j < 2 ^ 63 ∧ s.length * j.toNat ≤ sizeLine
  | _, _ => True
theorem o_mul : OpD X C (binaryOp .Mult) fMul kMul := by
  refine ⟨_, op_mul.or op_rep, fun M x y dx dy d Q ok rx ry hf hk q => ?_⟩
  unfold fMul at hf
  split at hf
  · cases hf
    exact .inl ⟨_, _, rx.int, ry.int, hk, q M _ (.refl ok) (Dr.int _)⟩
  · cases hf
    obtain ⟨a, xs, e1, h1, r1⟩ := Re.list ok rx
    obtain ⟨k1, k2, k3⟩ := hk
    exact .inr ⟨a, _, xs, e1, ry.int, h1, k1, k2, by rw [r1.len]; exact k3, new_lst ok (DrAll.rep _ r1) q⟩
  · cases hf
def fDiv : F2
  | .py (.int i), .py (.int j) => some (.py (.int (i.fdiv j)))
  | _, _ => none
def kDiv : D → D → Prop
  | .py (.int i), .py (.int j) => CDivN i j
  | _, _ => True
theorem o_div : OpD X C (binaryOp .FloorDiv) fDiv kDiv := by
  refine ⟨_, op_fdivN, fun M x y dx dy d Q ok rx ry hf hk q => ?_⟩
  unfold fDiv at hf
  split at hf
  · cases hf
    exact ⟨_, _, rx.int, ry.int, hk, q M _ (.refl ok) (Dr.int _)⟩
  · cases hf
def fMod : F2
  | .py (.int i), .py (.int j) => some (.py (.int (i % j)))
  | _, _ => none
def kMod : D → D → Prop
  | .py (.int _), .py (.int j) => 0 < j
  | _, _ => True
theorem o_mod : OpD X C (binaryOp .Mod) fMod kMod := by
  refine ⟨_, op_mod, fun M x y dx dy d Q ok rx ry hf hk q => ?_⟩
  unfold fMod at hf
  split at hf
  · cases hf
    exact ⟨_, _, rx.int, ry.int, hk, q M _ (.refl ok) (Dr.int _)⟩
  · cases hf
theorem o_iadd : OpD X C (inplaceOp .Add) fAdd (fun x y => (∃ i, x = .py (.int i)) ∧ ∃ j, y = .py (.int j)) := by
  refine ⟨_, iop_add, fun M x y dx dy d Q ok rx ry hf hk q => ?_⟩
  obtain ⟨⟨i, rfl⟩, j, rfl⟩ := hk
  cases hf
  exact ⟨_, _, rx.int, ry.int, q M _ (.refl ok) (Dr.int _)⟩
theorem o_imul : OpD X C (inplaceOp .Mult) fMul (fun x y => ∃ i j, x = .py (.int i) ∧ y = .py (.int j) ∧ CMul i j) := by
  refine ⟨_, iop_mul, fun M x y dx dy d Q ok rx ry hf hk q => ?_⟩
  obtain ⟨i, j, rfl, rfl, hc⟩ := hk
  cases hf
  exact ⟨_, _, rx.int, ry.int, hc, q M _ (.refl ok) (Dr.int _)⟩
/-! ### comparisons -/
def fCmp (p : Int → Int → Bool) : F2
  | .py (.int i), .py (.int j) => some (.py (.bool (p i j)))
  | _, _ => none
theorem o_cmp {op : CmpOp} {p : Int → Int → Bool} (h : OpR X (compareOp op) (rI0 fun i j => .bl (p i j))) : OpD X C (compareOp op) (fCmp p) kTrue := by
  refine ⟨_, h, fun M x y dx dy d Q ok rx ry hf hk q => ?_⟩
  unfold fCmp at hf
  split at hf
  · cases hf
    exact ⟨_, _, rx.int, ry.int, q M _ (.refl ok) (Dr.bl _)⟩
  · cases hf
abbrev fLt : F2 := fCmp fun i j => decide (i < j)
abbrev fLe : F2 := fCmp fun i j => decide (i ≤ j)
abbrev fGt : F2 := fCmp fun i j => decide (j < i)
abbrev fGe : F2 := fCmp fun i j => decide (j ≤ i)
theorem o_lt : OpD X C (compareOp .Lt) fLt kTrue := o_cmp op_lt
theorem o_le : OpD X C (compareOp .LtE) fLe kTrue := o_cmp op_le
theorem o_gt : OpD X C (compareOp .Gt) fGt kTrue := o_cmp op_gt
theorem o_ge : OpD X C (compareOp .GtE) fGe kTrue := o_cmp op_ge
def fEq : F2
  | .py d, .py e => some (.py (.bool (PyData.eqv d e)))
  | _, _ => none
def fNe : F2
  | .py d, .py e => some (.py (.bool (!PyData.eqv d e)))
  | _, _ => none
def kEq : D → D → Prop
  | .py d, .py e => SeqAt.shaped d = true ∧ SeqAt.shaped e = true
  | _, _ => True
theorem o_eq (hu : X.A.units + 64 < cLine) : OpD X C (compareOp .Eq) fEq kEq := by
  refine ⟨_, op_eqD hu, fun M x y dx dy d Q ok rx ry hf hk q => ?_⟩
  unfold fEq at hf
  split at hf
  · cases hf
    exact ⟨_, _, rx.dp X.K ok, ry.dp X.K ok, hk.1, hk.2, q M _ (.refl ok) (Dr.bl _)⟩
  · cases hf
theorem o_ne (hu : X.A.units + 64 < cLine) : OpD X C (compareOp .NotEq) fNe kEq := by
  refine ⟨_, op_neD hu, fun M x y dx dy d Q ok rx ry hf hk q => ?_⟩
  unfold fNe at hf
  split at hf
  · cases hf
    exact ⟨_, _, rx.dp X.K ok, ry.dp X.K ok, hk.1, hk.2, q M _ (.refl ok) (Dr.bl _)⟩
  · cases hf
def isNon : D → Bool
  | .py .none => true
  | _ => false
theorem non_iff {M : Wd} {v : V} {d : D} (r : Re C .r M v d) : decide (v = .non) = isNon d := by
  rcases r with r | ⟨a, xs, ds, rfl, rfl, _⟩
  · cases d with
    | py d =>
      cases (show Dr M.G v d from r) <;> rfl
    | ex k =>
      obtain ⟨a, rfl, _⟩ := r
      rfl
    | rf a =>
      cases (show v = .ref a from r)
      rfl
  · rfl
/-- is None; is True, is False of a bool -/
def fIs : F2
  | d, .py .none => some (.py (.bool (isNon d)))
  | .py (.bool i), .py (.bool j) => some (.py (.bool (decide (i = j))))
  | _, _ => none
def fIsN : F2
  | d, .py .none => some (.py (.bool (!isNon d)))
  | .py (.bool i), .py (.bool j) => some (.py (.bool (!decide (i = j))))
  | _, _ => none
theorem o_is : OpD X C (compareOp .Is) fIs kTrue := by
  refine ⟨_, op_isN.or op_isBl, fun M x y dx dy d Q ok rx ry hf hk q => ?_⟩
  unfold fIs at hf
  split at hf
  · cases hf
    refine .inl ⟨ry.non, ?_⟩
    rw [non_iff rx]
    exact q M _ (.refl ok) (Dr.bl _)
  · cases hf
    exact .inr ⟨_, _, rx.bl, ry.bl, q M _ (.refl ok) (Dr.bl _)⟩
  · cases hf
theorem o_isN : OpD X C (compareOp .IsNot) fIsN kTrue := by
  refine ⟨_, op_notN.or op_notBl, fun M x y dx dy d Q ok rx ry hf hk q => ?_⟩
  unfold fIsN at hf
  split at hf
  · cases hf
    refine .inl ⟨ry.non, ?_⟩
    rw [non_iff rx]
    exact q M _ (.refl ok) (Dr.bl _)
  · cases hf
    exact .inr ⟨_, _, rx.bl, ry.bl, q M _ (.refl ok) (Dr.bl _)⟩
  · cases hf
/-- in: a list of anything, a tuple of ints, a sign in a text -/
def sgn (s : Str) : Option Nat := match s.cps.toList with
  | [c] => some c
  | _ => none
def inD : D → D → Option Bool
  | .py d, .py (.list ds) => some (ds.any fun z => PyData.eqv z d)
  | .py d, .py (.tuple ds) => some (ds.any fun z => PyData.eqv z d)
  | .py (.str s), .py (.str z) => (sgn s).map fun c => decide (c ∈ z.cps.toList)
  | _, _ => none
def fIn : F2 := fun x y => (inD x y).map fun b => .py (.bool b)
def fNi : F2 := fun x y => (inD x y).map fun b => .py (.bool (!b))
def kIn : D → D → Prop
  | .py d, .py (.list ds) => SeqAt.shaped d = true ∧ SeqAt.shaped (.list ds) = true
  | .py d, .py (.tuple ds) => (∃ i, d = .int i) ∧ ∃ ns : List Int, ds = ns.map .int
  | _, _ => True
theorem inV_ints (i : Int) : ∀ ns : List Int, inV (.int i) (ns.map V.int) = (ns.map PyData.int).any fun z => PyData.eqv z (.int i)
  | [] => rfl
  | n :: ns => by
    show (eqV (.int n) (.int i) || inV (.int i) (ns.map V.int)) = (PyData.eqv (.int n) (.int i) || (ns.map PyData.int).any fun z => PyData.eqv z (.int i))
    rw [inV_ints i ns]
    simp only [PyData.eqv]
    rfl
theorem flat_ints : ∀ ns : List Int, (ns.map V.int).all flatV = true
  | [] => rfl
  | n :: ns => by
    show (true && (ns.map V.int).all flatV) = true
    rw [flat_ints ns]
    rfl
theorem sgn_eq {s : Str} {c : Nat} (h : sgn s = some c) : s = ⟨#[c]⟩ := by
  unfold sgn at h
  split at h
  · rename_i d e
    cases h
    obtain ⟨⟨l⟩⟩ := s
    simp only at e
    subst e
    rfl
  · cases h
theorem o_in (hu : X.A.units + 65 < cLine) : OpD X C (compareOp .In) fIn kIn := by
  refine ⟨_, (op_inD hu).or (op_in_seq.or op_in_sign), fun M x y dx dy d Q ok rx ry hf hk q => ?_⟩
  unfold fIn inD at hf
  split at hf
  · cases hf
    exact .inl ⟨_, _, rx.dp X.K ok, ry.dp X.K ok, hk.1, hk.2, q M _ (.refl ok) (Dr.bl _)⟩
  · cases hf
    obtain ⟨⟨i, rfl⟩, ns, rfl⟩ := hk
    obtain ⟨a, xs, e1, h1, r1⟩ := Re.tuple ok ry
    cases r1.ints
    refine .inr (.inl ⟨a, _, e1, .inr (.of h1), by rw [rx.int]; rfl, flat_ints ns, ?_⟩)
    rw [rx.int]
    show Q (.bl (inV (.int i) (ns.map V.int))) M.H
    rw [inV_ints]
    exact q M _ (.refl ok) (Dr.bl _)
  · rename_i s z
    cases hs : sgn s with
    | none =>
      rw [hs] at hf
      cases hf
    | some c =>
      rw [hs] at hf
      cases hf
      refine .inr (.inr ⟨c, z, ?_, ry.str, q M _ (.refl ok) (Dr.bl _)⟩)
      rw [rx.str, sgn_eq hs]
  · cases hf
theorem o_ni (hu : X.A.units + 65 < cLine) : OpD X C (compareOp .NotIn) fNi kIn := by
  refine ⟨_, (op_notInD hu).or (op_notIn_seq.or op_notIn_sign), fun M x y dx dy d Q ok rx ry hf hk q => ?_⟩
  unfold fNi inD at hf
  split at hf
  · cases hf
    exact .inl ⟨_, _, rx.dp X.K ok, ry.dp X.K ok, hk.1, hk.2, q M _ (.refl ok) (Dr.bl _)⟩
  · cases hf
    obtain ⟨⟨i, rfl⟩, ns, rfl⟩ := hk
    obtain ⟨a, xs, e1, h1, r1⟩ := Re.tuple ok ry
    cases r1.ints
    refine .inr (.inl ⟨a, _, e1, .inr (.of h1), by rw [rx.int]; rfl, flat_ints ns, ?_⟩)
    rw [rx.int]
    show Q (.bl (!inV (.int i) (ns.map V.int))) M.H
    rw [inV_ints]
    exact q M _ (.refl ok) (Dr.bl _)
  · rename_i s z
    cases hs : sgn s with
    | none =>
      rw [hs] at hf
      cases hf
    | some c =>
      rw [hs] at hf
      cases hf
      refine .inr (.inr ⟨c, z, ?_, ry.str, q M _ (.refl ok) (Dr.bl _)⟩)
      rw [rx.str, sgn_eq hs]
  · cases hf
/-! ### subscripts, slices -/
def fIx : F2
  | .py (.list ds), .py (.int i) => (atI ds i).map .py
  | .py (.tuple ds), .py (.int i) => (atI ds i).map .py
  | .py (.str z), .py (.int i) => (atI z.cps.toList i).map fun c => .py (.str ⟨#[c]⟩)
  | _, _ => none
def kIx : D → D → Prop
  | .py (.str z), _ => z.length ≤ sizeLine
  | _, _ => True
theorem atI_dr {G : Hp} {vs : List V} {ds : List PyData} {i : Int} {d : PyData} (r : DrAll G vs ds) (h : atI ds i = some d) : ∃ v, atI vs i = some v ∧ Dr G v d := by
  unfold atI at h ⊢
  rw [r.len]
  cases q : ixN ds.length i with
  | none =>
    rw [q] at h
    cases h
  | some j =>
    rw [q] at h
    exact r.get h
theorem ex_ix (ha : EX X L Wx m a wa) (hb : EX X L Wx m' b wb) (hs : PlainIx b := by exact fun _ _ => rfl) : EX X L Wx .s (.Subscript a b pos) (wOp fIx kIx wa wb) := by
  obtain ⟨t, a1, a2⟩ := ha
  obtain ⟨u, b1, b2⟩ := hb
  refine ⟨_, pe_ix ix_seq a1 b1 hs, rx_op a2 b2 fun M x y dx dy d Q ok rx ry hf hk q => ?_⟩
  unfold fIx at hf
  split at hf
  · cases h : atI _ _ with
    | none => rw [h] at hf; cases hf
    | some z =>
      rw [h] at hf
      cases hf
      obtain ⟨p, xs, e1, h1, r1⟩ := Re.list ok rx
      obtain ⟨v, hv, r⟩ := atI_dr r1 h
      exact .inl ⟨p, xs, _, v, e1, ry.int, .of h1, hv, q M v (.refl ok) r⟩
  · cases h : atI _ _ with
    | none => rw [h] at hf; cases hf
    | some z =>
      rw [h] at hf
      cases hf
      obtain ⟨p, xs, e1, h1, r1⟩ := Re.tuple ok rx
      obtain ⟨v, hv, r⟩ := atI_dr r1 h
      exact .inr (.inl ⟨p, xs, _, v, e1, ry.int, .of h1, hv, q M v (.refl ok) r⟩)
  · cases h : atI _ _ with
    | none => rw [h] at hf; cases hf
    | some z =>
      rw [h] at hf
      cases hf
      exact .inr (.inr ⟨_, _, z, rx.str, ry.int, hk, h, q M _ (.refl ok) (Dr.str _)⟩)
  · cases hf
def cutD {α : Type} (xs : List α) (lo hi : Option Int) : List α := (xs.drop (HT.sIx xs.length 0 lo)).take (HT.sIx xs.length xs.length hi - HT.sIx xs.length 0 lo)
theorem cut_dr {G : Hp} {vs : List V} {ds : List PyData} (r : DrAll G vs ds) (lo hi : Option Int) : DrAll G (cutV vs lo hi) (cutD ds lo hi) := by
  unfold cutV cutD
  rw [r.len]
  exact (r.drop _).take _
def fSl : D → Option Int → Option Int → Option D
  | .py (.list ds), lo, hi => some (.py (.list (cutD ds lo hi)))
  | .py (.tuple ds), lo, hi => some (.py (.tuple (cutD ds lo hi)))
  | .py (.str z), lo, hi => some (.py (.str (cutS z lo hi)))
  | _, _, _ => none
abbrev WO (Θ : Type) := DS → Θ → (Option Int → Θ → Prop) → (EK → Θ → Prop) → Prop
def RXo (L : Vl) (Wx : WX) (t : TO) (w : WO L.Θ) : Prop := ∀ (H0 : Hp) (M : Wd) (σ : L2.St) (ρ : DS) (θ : L.Θ) (Q : Option Int → Hp → Prop) (N : Option Int → L.Θ → Prop) (Nx : EK → L.Θ → Prop), Rep L.C H0 M σ ρ → L.at θ M → w ρ θ N Nx →
  (∀ o θ' M', Ext M M' → L.at θ' M' → N o θ' → Q o M'.H) → (∀ k θ' M', Ext M M' → L.at θ' M' → Nx k θ' → Wx (.ref (L.C k)) none σ M'.H) → t σ M.H Q
structure OX (X : Cx) (L : Vl) (Wx : WX) (e : Option Expr) (w : WO L.Θ) : Prop where
  ex : ∃ t, PO X e t ∧ RXo L Wx t w
def wNoPart {Θ : Type} : WO Θ := fun _ θ N _ => N none θ
def wPart {Θ : Type} (w : WE Θ) : WO Θ := fun ρ θ N Nx => w ρ θ (fun d θ' => ∃ i, d = .py (.int i) ∧ N (some i) θ') Nx
theorem ox_none : OX X L Wx none wNoPart := ⟨_, po_none, fun H0 M σ ρ θ Q N Nx rep j hw hN hX => hN none θ M (.refl rep.ok) j hw⟩
theorem ox_some (h : EX X L Wx m e we) : OX X L Wx (some e) (wPart we) := by
  obtain ⟨t, a1, a2⟩ := h
  refine ⟨_, po_some a1, fun H0 M σ ρ θ Q N Nx rep j hw hN hX => ?_⟩
  refine a2 H0 M σ ρ θ _ _ Nx rep j hw (fun d θ' M' v e' j' r n => ?_) hX
  obtain ⟨i, rfl, n⟩ := n
  exact ⟨i, r.r.int, hN (some i) θ' M' e' j' n⟩
def wSl {Θ : Type} (wa : WE Θ) (wl wh : WO Θ) : WE Θ := fun ρ θ N Nx => wa ρ θ (fun x θ1 => wl ρ θ1 (fun lo θ2 => wh ρ θ2 (fun hi θ3 => ∃ d, fSl x lo hi = some d ∧ kIx x x ∧ N d θ3) Nx) Nx) Nx
theorem ex_sl {lo hi : Option Expr} {wl wh : WO L.Θ} (ha : EX X L Wx m a wa) (hl : OX X L Wx lo wl) (hh : OX X L Wx hi wh) : EX X L Wx .s (.Subscript a (.Slice lo hi none p2) pos) (wSl wa wl wh) := by
  obtain ⟨t, a1, a2⟩ := ha
  obtain ⟨u, l1, l2⟩ := hl
  obtain ⟨s, h1, h2⟩ := hh
  refine ⟨_, pe_slice (sl_list.or (sl_tupA.or sl_str)) a1 l1 h1, fun H0 M σ ρ θ Q N Nx rep j hw hN hX => ?_⟩
  refine a2 H0 M σ ρ θ _ _ Nx rep j hw (fun x θ1 M1 v1 e1 j1 r1 n1 => ?_) hX
  refine l2 H0 M1 σ ρ θ1 _ _ Nx (rep.ext e1) j1 n1 (fun lo θ2 M2 e2 j2 n2 => ?_) (fun k θ' M' e j n => hX k θ' M' (e1.trans e) j n)
  refine h2 H0 M2 σ ρ θ2 _ _ Nx ((rep.ext e1).ext e2) j2 n2 (fun hi θ3 M3 e3 j3 n3 => ?_) (fun k θ' M' e j n => hX k θ' M' (e1.trans (e2.trans e)) j n)
  obtain ⟨d, hf, hk, n⟩ := n3
  have ok := e3.ok
  have r3 := ((r1.ext e2).ext e3).r
  have q : ∀ M' v, Ext0 M3 M' → Rv L.C M'.G v d → Q v M'.H := fun M' v e r => hN d θ3 M' v (e1.trans (e2.trans (e3.trans e.1))) (L.ext0 e j3) r n
  unfold fSl at hf
  split at hf
  · cases hf
    obtain ⟨p, xs, ex, hx, rx⟩ := Re.list ok r3
    exact .inl ⟨p, xs, ex, .of hx, new_lst ok (cut_dr rx _ _) q⟩
  · cases hf
    obtain ⟨p, xs, ex, hx, rx⟩ := Re.tuple ok r3
    refine .inr (.inl ⟨p, xs, ex, .of hx, fun hw => ?_, fun _ => new_tup ok (cut_dr rx _ _) q⟩)
    rcases r3 with r3 | ⟨_, _, _, _, e5, _⟩
    · rw [← ex]
      refine q M3 v1 (.refl ok) ?_
      rename_i ds
      have e0 : cutD ds lo hi = ds := by
        unfold cutD
        rw [← rx.len, hw.1, hw.2, Nat.sub_zero, List.drop_zero, rx.len, List.take_length]
      rw [e0]
      exact r3
    · cases e5
  · cases hf
    exact .inr (.inr ⟨_, r3.str, hk, q M3 _ (.refl ok) (Dr.str _)⟩)
  · cases hf
/-- xs[::-1] of a list -/
def wRevL {Θ : Type} (wa : WE Θ) : WE Θ := fun ρ θ N Nx => wa ρ θ (fun x θ1 => ∃ ds, x = .py (.list ds) ∧ N (.py (.list ds.reverse)) θ1) Nx
theorem ex_revL {k : Nat} {p1 p2 p3 : Pos} (ha : EX X L Wx m a wa) : EX X L Wx .s (.Subscript a (.Slice none none (some (.UnaryOp .USub (.Constant (.int 1) k p1) p2)) p3) pos) (wRevL wa) := by
  obtain ⟨t, a1, a2⟩ := ha
  refine ⟨_, pe_revL a1, fun H0 M σ ρ θ Q N Nx rep j hw hN hX => ?_⟩
  refine a2 H0 M σ ρ θ _ _ Nx rep j hw (fun x θ1 M1 v1 e1 j1 r1 n1 => ?_) hX
  obtain ⟨ds, rfl, n⟩ := n1
  obtain ⟨p, xs, ex, hx, rx⟩ := Re.list e1.ok r1.r
  exact ⟨p, xs, ex, .of hx, new_lst (C := L.C) e1.ok rx.rev fun M' v e r => hN (.py (.list ds.reverse)) θ1 M' v (e1.trans e.1) (L.ext0 e j1) r n⟩
/-! ### built-in functions -/
abbrev FB := List D → Option D
structure CalB (X : Cx) (C : EK → Addr) (g : Value) (f : FB) (okc : List D → Prop) : Prop where
  ex : ∃ r, CallR X g r ∧ ∀ (M : Wd) (vs : List V) (ds : List D) (d : D) (Q : VK), M.Ok → Paired (Re C .r M) vs ds → f ds = some d → okc ds → (∀ M' v, Ext0 M M' → Rv C M'.G v d → Q v M'.H) → r vs M.H Q
def wBlt {Θ : Type} (f : FB) (okc : List D → Prop) (wr : WA Θ) : WE Θ := fun ρ θ N Nx => wr ρ θ (fun ds θ1 => ∃ d, f ds = some d ∧ okc ds ∧ N d θ1) Nx
theorem rx_blt {f : FB} {okc : List D → Prop} {r : List V → Hp → VK → Prop} {t : TA} (h : RXa L Wx .r t wr) (hr : ∀ (M : Wd) (vs : List V) (ds : List D) (d : D) (Q : VK), M.Ok → Paired (Re L.C .r M) vs ds → f ds = some d → okc ds → (∀ M' v, Ext0 M M' → Rv L.C M'.G v d → Q v M'.H) → r vs M.H Q) : RXe L Wx .s (tCB r t) (wBlt f okc wr) := by
  intro H0 M σ ρ θ Q N Nx rep j hw hN hX
  refine h H0 M σ ρ θ _ _ Nx rep j hw (fun ds θ1 M1 vs e1 j1 r1 n1 => ?_) hX
  obtain ⟨d, hf, hk, n⟩ := n1
  exact hr M1 vs ds d Q e1.ok r1 hf hk fun M' v e r => hN d θ1 M' v (e1.trans e.1) (L.ext0 e j1) r n
theorem ex_blt {x : Str} {id : String} {f : FB} {okc : List D → Prop} (c : CalB X L.C (.builtin id) f okc) (hm : X.mg x = none) (hg : Gl X x) (ha : AX X L Wx .r (e :: es) wr) (hv : bootBuiltins x = some (.builtin id) := by decide +kernel) (hn : x ≠ "__name__" := by decide) (hdb : (x == ("__debug__" : Str)) = false := by decide)
    (he : starEach (e :: es) X.env = (false, eval e X.env) :: starEach es X.env := by rfl) (hpl : (backTo pos (starEach es X.env)).any (·.1) = false := by rfl) : EX X L Wx .s (.Call (.Name x p) (e :: es) [] pos) (wBlt f okc wr) := by
  obtain ⟨r, c1, c2⟩ := c
  obtain ⟨t, a1, a2⟩ := ha
  exact ⟨_, pe_callB c1 hg hm hv a1 hn hdb he hpl, rx_blt a2 c2⟩
theorem ex_ty {x : Str} {T : String} {f : FB} {okc : List D → Prop} (c : CalB X L.C (.type T) f okc) (hm : X.mg x = none) (hg : Gl X x) (ha : AX X L Wx .r (e :: es) wr) (hv : bootBuiltins x = some (.type T) := by decide +kernel) (hn : x ≠ "__name__" := by decide) (hdb : (x == ("__debug__" : Str)) = false := by decide)
    (he : starEach (e :: es) X.env = (false, eval e X.env) :: starEach es X.env := by rfl) (hpl : (backTo pos (starEach es X.env)).any (·.1) = false := by rfl) : EX X L Wx .s (.Call (.Name x p) (e :: es) [] pos) (wBlt f okc wr) := by
  obtain ⟨r, c1, c2⟩ := c
  obtain ⟨t, a1, a2⟩ := ha
  exact ⟨_, pe_callTy c1 hg hm hv a1 hn hdb he hpl, rx_blt a2 c2⟩
def kAny : List D → Prop := fun _ => True
theorem pair1 {M : Wd} {vs : List V} {d : D} (r : Paired (Re C .r M) vs [d]) : ∃ v, vs = [v] ∧ Re C .r M v d := by
  cases r with
  | cons h t =>
    cases t
    exact ⟨_, rfl, h⟩
theorem pair2 {M : Wd} {vs : List V} {d1 d2 : D} (r : Paired (Re C .r M) vs [d1, d2]) : ∃ v u, vs = [v, u] ∧ Re C .r M v d1 ∧ Re C .r M u d2 := by
  cases r with
  | cons h t =>
    cases t with
    | cons h2 t =>
      cases t
      exact ⟨_, _, rfl, h, h2⟩
def fLen : FB
  | [.py (.list ds)] => some (.py (.int ds.length))
  | [.py (.tuple ds)] => some (.py (.int ds.length))
  | [.py (.str z)] => some (.py (.int z.length))
  | _ => none
def kLen : List D → Prop
  | [.py (.str z)] => z.length ≤ sizeLine
  | _ => True
theorem b_len : CalB X C (.builtin "len") fLen kLen := by
  refine ⟨_, call_len_seq.or call_len_str, fun M vs ds d Q ok r hf hk q => ?_⟩
  unfold fLen at hf
  split at hf
  · cases hf
    obtain ⟨v, rfl, r0⟩ := pair1 r
    clear r
    have r := r0
    obtain ⟨a, xs, e1, h1, r1⟩ := Re.list ok r
    refine .inl ⟨a, xs, by rw [e1], .inl (.of h1), ?_⟩
    rw [r1.len]
    exact q M _ (.refl ok) (Dr.int _)
  · cases hf
    obtain ⟨v, rfl, r0⟩ := pair1 r
    clear r
    have r := r0
    obtain ⟨a, xs, e1, h1, r1⟩ := Re.tuple ok r
    refine .inl ⟨a, xs, by rw [e1], .inr (.of h1), ?_⟩
    rw [r1.len]
    exact q M _ (.refl ok) (Dr.int _)
  · cases hf
    obtain ⟨v, rfl, r0⟩ := pair1 r
    clear r
    have r := r0
    exact .inr ⟨_, by rw [r.str], hk, q M _ (.refl ok) (Dr.int _)⟩
  · cases hf
def fList : FB
  | [.py (.list ds)] => some (.py (.list ds))
  | [.py (.tuple ds)] => some (.py (.list ds))
  | _ => none
theorem b_list : CalB X C (.type "list") fList kAny := by
  refine ⟨_, call_list_of, fun M vs ds d Q ok r hf hk q => ?_⟩
  unfold fList at hf
  split at hf
  · cases hf
    obtain ⟨v, rfl, r0⟩ := pair1 r
    clear r
    have r := r0
    obtain ⟨a, xs, e1, h1, r1⟩ := Re.list ok r
    exact ⟨a, xs, by rw [e1], .inl (.of h1), new_lst ok r1 q⟩
  · cases hf
    obtain ⟨v, rfl, r0⟩ := pair1 r
    clear r
    have r := r0
    obtain ⟨a, xs, e1, h1, r1⟩ := Re.tuple ok r
    exact ⟨a, xs, by rw [e1], .inr (.of h1), new_lst ok r1 q⟩
  · cases hf
def fTuple : FB
  | [.py (.list ds)] => some (.py (.tuple ds))
  | [.py (.tuple ds)] => some (.py (.tuple ds))
  | _ => none
theorem b_tuple : CalB X C (.type "tuple") fTuple kAny := by
  refine ⟨_, call_tuple_of, fun M vs ds d Q ok r hf hk q => ?_⟩
  unfold fTuple at hf
  split at hf
  · cases hf
    obtain ⟨v, rfl, r0⟩ := pair1 r
    clear r
    have r := r0
    obtain ⟨a, xs, e1, h1, r1⟩ := Re.list ok r
    exact ⟨a, xs, by rw [e1], .inl ⟨.of h1, new_tup ok r1 q⟩⟩
  · cases hf
    obtain ⟨v, rfl, r0⟩ := pair1 r
    clear r
    have r := r0
    obtain ⟨a, xs, e1, h1, r1⟩ := Re.tuple ok r
    refine ⟨a, xs, by rw [e1], .inr ⟨.of h1, ?_⟩⟩
    rcases r with r | ⟨_, _, _, _, e2, _⟩
    · rw [← e1]
      exact q M v (.refl ok) r
    · cases e2
  · cases hf
/-- the ints of data -/
def intsOf : List PyData → Option (List Int)
  | [] => some []
  | .int i :: r => (intsOf r).map (i :: ·)
  | _ :: _ => none
theorem intsOf_eq : ∀ {ds : List PyData} {ns : List Int}, intsOf ds = some ns → ds = ns.map .int
  | [], _, h => by cases h; rfl
  | .int i :: r, ns, h => by
    have h' : (intsOf r).map (i :: ·) = some ns := h
    cases e : intsOf r with
    | none => rw [e] at h'; cases h'
    | some es =>
      rw [e] at h'
      have h2 : i :: es = ns := Option.some.inj h'
      subst h2
      rw [List.map_cons, ← intsOf_eq e]
  | .none :: _, _, h => by cases h
  | .bool _ :: _, _, h => by cases h
  | .str _ :: _, _, h => by cases h
  | .list _ :: _, _, h => by cases h
  | .tuple _ :: _, _, h => by cases h
  | .dict _ :: _, _, h => by cases h
theorem intsOf_map : ∀ ns : List Int, intsOf (ns.map .int) = some ns
  | [] => rfl
  | n :: ns => by
    show (intsOf (ns.map .int)).map (n :: ·) = _
    rw [intsOf_map ns]
    rfl
theorem re_ints {M : Wd} {v : V} {ds : List PyData} {ns : List Int} (ok : M.Ok) (r : Re C .r M v (.py (.list ds))) (h : intsOf ds = some ns) : ∃ a, v = .ref a ∧ M.H a = some (.lst (ns.map V.int)) := by
  cases intsOf_eq h
  obtain ⟨a, xs, e1, h1, r1⟩ := Re.list ok r
  cases r1.ints
  exact ⟨a, e1, h1⟩
def fSum : FB
  | [.py (.list ds)] => (intsOf ds).map fun ns => .py (.int ns.sum)
  | _ => none
theorem b_sum (hc : X.calm = true) : CalB X C (.builtin "sum") fSum kAny := by
  refine ⟨_, cr_sum hc, fun M vs ds d Q ok r hf hk q => ?_⟩
  unfold fSum at hf
  split at hf
  · rename_i ds'
    cases h : intsOf ds' with
    | none => rw [h] at hf; cases hf
    | some ns =>
      rw [h] at hf
      cases hf
      obtain ⟨v, rfl, r0⟩ := pair1 r
      clear r
      have r := r0
      obtain ⟨a, rfl, h1⟩ := re_ints ok r h
      exact ⟨a, ns, rfl, .of h1, q M _ (.refl ok) (Dr.int _)⟩
  · cases hf
def maxI : List Int → Int
  | [] => 0
  | n :: ns => ns.foldl max n
def minI : List Int → Int
  | [] => 0
  | n :: ns => ns.foldl min n
theorem foldl_max : ∀ (ns : List Int) (n : Int), (ns.foldl max n = n ∨ ns.foldl max n ∈ ns) ∧ n ≤ ns.foldl max n ∧ ∀ y ∈ ns, y ≤ ns.foldl max n
  | [], n => ⟨.inl rfl, Int.le_refl _, fun _ h => by cases h⟩
  | x :: ns, n => by
    obtain ⟨h1, h2, h3⟩ := foldl_max ns (max n x)
    rw [List.foldl_cons]
    refine ⟨?_, by omega, fun y hy => ?_⟩
    · rcases h1 with h1 | h1
      · rw [h1]
        rcases Int.le_total n x with c | c
        · exact .inr (by rw [Int.max_eq_right c]; exact List.mem_cons_self)
        · exact .inl (Int.max_eq_left c)
      · exact .inr (List.mem_cons_of_mem _ h1)
    · rcases List.mem_cons.mp hy with rfl | hy
      · omega
      · exact h3 y hy
theorem foldl_min : ∀ (ns : List Int) (n : Int), (ns.foldl min n = n ∨ ns.foldl min n ∈ ns) ∧ ns.foldl min n ≤ n ∧ ∀ y ∈ ns, ns.foldl min n ≤ y
  | [], n => ⟨.inl rfl, Int.le_refl _, fun _ h => by cases h⟩
  | x :: ns, n => by
    obtain ⟨h1, h2, h3⟩ := foldl_min ns (min n x)
    rw [List.foldl_cons]
    refine ⟨?_, by omega, fun y hy => ?_⟩
    · rcases h1 with h1 | h1
      · rw [h1]
        rcases Int.le_total n x with c | c
        · exact .inl (Int.min_eq_left c)
        · exact .inr (by rw [Int.min_eq_right c]; exact List.mem_cons_self)
      · exact .inr (List.mem_cons_of_mem _ h1)
    · rcases List.mem_cons.mp hy with rfl | hy
      · omega
      · exact h3 y hy
theorem maxI_is {ns : List Int} {m : Int} (h : m ∈ ns) (hm : ∀ y ∈ ns, y ≤ m) : m = maxI ns := by
  cases ns with
  | nil => cases h
  | cons n ns =>
    obtain ⟨h1, h2, h3⟩ := foldl_max ns n
    show m = ns.foldl max n
    have a : ns.foldl max n ≤ m := by
      rcases h1 with h1 | h1
      · rw [h1]
        exact hm n List.mem_cons_self
      · exact hm _ (List.mem_cons_of_mem _ h1)
    have b : m ≤ ns.foldl max n := by
      rcases List.mem_cons.mp h with rfl | h
      · exact h2
      · exact h3 m h
    omega
theorem minI_is {ns : List Int} {m : Int} (h : m ∈ ns) (hm : ∀ y ∈ ns, m ≤ y) : m = minI ns := by
  cases ns with
  | nil => cases h
  | cons n ns =>
    obtain ⟨h1, h2, h3⟩ := foldl_min ns n
    show m = ns.foldl min n
    have a : m ≤ ns.foldl min n := by
      rcases h1 with h1 | h1
      · rw [h1]
        exact hm n List.mem_cons_self
      · exact hm _ (List.mem_cons_of_mem _ h1)
    have b : ns.foldl min n ≤ m := by
      rcases List.mem_cons.mp h with rfl | h
      · exact h2
      · exact h3 m h
    omega
def fMax : FB
  | [.py (.list ds)] => (intsOf ds).map fun ns => .py (.int (maxI ns))
  | [.py (.int i), .py (.int j)] => some (.py (.int (if j > i then j else i)))
  | _ => none
def fMin : FB
  | [.py (.list ds)] => (intsOf ds).map fun ns => .py (.int (minI ns))
  | _ => none
def kNe : List D → Prop
  | [.py (.list ds)] => ds ≠ []
  | _ => True
theorem b_max (hc : X.calm = true) : CalB X C (.builtin "max") fMax kNe := by
  refine ⟨_, (cr_max hc).or (call_max2 hc), fun M vs ds d Q ok r hf hk q => ?_⟩
  unfold fMax at hf
  split at hf
  · rename_i ds'
    cases h : intsOf ds' with
    | none => rw [h] at hf; cases hf
    | some ns =>
      rw [h] at hf
      cases hf
      obtain ⟨v, rfl, r0⟩ := pair1 r
      clear r
      have r := r0
      obtain ⟨a, rfl, h1⟩ := re_ints ok r h
      have e := intsOf_eq h
      refine .inl ⟨a, ns, rfl, .of h1, ?_, fun m hm hy => ?_⟩
      · cases ns with
        | nil => exact absurd e hk
        | cons _ _ => exact Nat.succ_pos _
      · rw [maxI_is hm hy]
        exact q M _ (.refl ok) (Dr.int _)
  · cases hf
    obtain ⟨v, u, rfl, r1, r2⟩ := pair2 r
    exact .inr ⟨_, _, by rw [r1.int, r2.int], q M _ (.refl ok) (Dr.int _)⟩
  · cases hf
theorem b_min (hc : X.calm = true) : CalB X C (.builtin "min") fMin kNe := by
  refine ⟨_, cr_min hc, fun M vs ds d Q ok r hf hk q => ?_⟩
  unfold fMin at hf
  split at hf
  · rename_i ds'
    cases h : intsOf ds' with
    | none => rw [h] at hf; cases hf
    | some ns =>
      rw [h] at hf
      cases hf
      obtain ⟨v, rfl, r0⟩ := pair1 r
      clear r
      have r := r0
      obtain ⟨a, rfl, h1⟩ := re_ints ok r h
      have e := intsOf_eq h
      refine ⟨a, ns, rfl, .of h1, ?_, fun m hm hy => ?_⟩
      · cases ns with
        | nil => exact absurd e hk
        | cons _ _ => exact Nat.succ_pos _
      · rw [minI_is hm hy]
        exact q M _ (.refl ok) (Dr.int _)
  · cases hf
def blsOf : List PyData → Option (List Bool)
  | [] => some []
  | .bool i :: r => (blsOf r).map (i :: ·)
  | _ :: _ => none
theorem blsOf_eq : ∀ {ds : List PyData} {ns : List Bool}, blsOf ds = some ns → ds = ns.map .bool
  | [], _, h => by cases h; rfl
  | .bool i :: r, ns, h => by
    have h' : (blsOf r).map (i :: ·) = some ns := h
    cases e : blsOf r with
    | none => rw [e] at h'; cases h'
    | some es =>
      rw [e] at h'
      have h2 : i :: es = ns := Option.some.inj h'
      subst h2
      rw [List.map_cons, ← blsOf_eq e]
  | .none :: _, _, h => by cases h
  | .int _ :: _, _, h => by cases h
  | .str _ :: _, _, h => by cases h
  | .list _ :: _, _, h => by cases h
  | .tuple _ :: _, _, h => by cases h
  | .dict _ :: _, _, h => by cases h
theorem blsOf_map : ∀ ns : List Bool, blsOf (ns.map .bool) = some ns
  | [] => rfl
  | n :: ns => by
    show (blsOf (ns.map .bool)).map (n :: ·) = _
    rw [blsOf_map ns]
    rfl
def fAll : FB
  | [.py (.list ds)] => (blsOf ds).map fun bs => .py (.bool (bs.all id))
  | _ => none
theorem b_all (hc : X.calm = true) : CalB X C (.builtin "all") fAll kAny := by
  refine ⟨_, cr_all hc, fun M vs ds d Q ok r hf hk q => ?_⟩
  unfold fAll at hf
  split at hf
  · rename_i ds'
    cases h : blsOf ds' with
    | none => rw [h] at hf; cases hf
    | some ns =>
      rw [h] at hf
      cases hf
      obtain ⟨v, rfl, r0⟩ := pair1 r
      clear r
      have r := r0
      obtain ⟨a, xs, rfl, h1, r1⟩ := Re.list ok r
      cases blsOf_eq h
      cases r1.bls
      exact ⟨a, ns, rfl, .of h1, q M _ (.refl ok) (Dr.bl _)⟩
  · cases hf
/-- str of an int -/
def fStr : FB
  | [.py (.int i)] => some (.py (.str (toString i)))
  | _ => none
def kStr : List D → Prop
  | [.py (.int i)] => i.natAbs.log2 < 1920
  | _ => True
theorem b_str : CalB X C (.type "str") fStr kStr := by
  refine ⟨_, call_str_int, fun M vs ds d Q ok r hf hk q => ?_⟩
  unfold fStr at hf
  split at hf
  · cases hf
    obtain ⟨v, rfl, r0⟩ := pair1 r
    clear r
    have r := r0
    exact ⟨_, by rw [r.int], hk, q M _ (.refl ok) (Dr.str _)⟩
  · cases hf
/-- int of a text -/
def fInt : FB
  | [.py (.str z)] => (PySem.intText? z).map fun n => .py (.int n)
  | _ => none
def kInt : List D → Prop
  | [.py (.str z)] => z.length ≤ 640
  | _ => True
theorem b_int : CalB X C (.type "int") fInt kInt := by
  refine ⟨_, call_int_str, fun M vs ds d Q ok r hf hk q => ?_⟩
  unfold fInt at hf
  split at hf
  · rename_i z
    cases h : PySem.intText? z with
    | none => rw [h] at hf; cases hf
    | some n =>
      rw [h] at hf
      cases hf
      obtain ⟨v, rfl, r0⟩ := pair1 r
      clear r
      have r := r0
      exact ⟨z, n, by rw [r.str], h, hk, q M _ (.refl ok) (Dr.int _)⟩
  · cases hf
end RT
end
section
set_option Elab.async false
set_option linter.all false
set_option maxRecDepth 100000
set_option maxHeartbeats 2000000
namespace RT
open PySem PySem.Spec PyProof.Rows L2
variable {X : Cx} {L : Vl} {Wx : WX} {C : EK → Addr} {m m' : Md} {tg e a b c : Expr} {es : List Expr} {we wa wb wc : WE L.Θ} {wr : WA L.Θ} {pos p p2 : Pos}
/-! ### what is walked -/
def wItL {Θ : Type} (we : WE Θ) : WI Θ := fun ρ θ N Nx => we ρ θ (fun d θ' => ∃ ds, d = .py (.list ds) ∧ N (ds.map D.py) θ') Nx
def wItT {Θ : Type} (we : WE Θ) : WI Θ := fun ρ θ N Nx => we ρ θ (fun d θ' => ∃ ds, d = .py (.tuple ds) ∧ N (ds.map D.py) θ') Nx
theorem map_py_get {ds : List PyData} {i : Nat} {d : D} (h : (ds.map D.py)[i]? = some d) : ∃ y, d = .py y ∧ ds[i]? = some y := by
  rw [List.getElem?_map] at h
  cases q : ds[i]? with
  | none => rw [q] at h; cases h
  | some y => rw [q] at h; cases h; exact ⟨y, rfl, rfl⟩
theorem itl_ok {K : PySem.W.Frag} {G : Hp} {a : Addr} {xs : List V} {ds : List PyData} (h : G a = some (.lst xs)) (r : DrAll G xs ds) : ItD C (Itl K a) G (ds.map D.py) := by
  intro M ok sg
  have hs : SqL K M.H a xs := .of (ok.g _ _ (sg _ _ h))
  refine ⟨fun i d hd => ?_, fun i hi => ⟨xs, hs, by rw [r.len]; simpa using hi⟩⟩
  obtain ⟨y, rfl, hy⟩ := map_py_get hd
  obtain ⟨v, hv, rv⟩ := r.get hy
  refine ⟨⟨xs, v, hs, hv⟩, fun x H' hq => ?_⟩
  obtain ⟨rfl, f⟩ := hq
  have q := f _ hs
  rw [hv] at q
  cases q
  exact ⟨M, rfl, .refl ok, rv.mono sg⟩
theorem itt_ok {K : PySem.W.Frag} {G : Hp} {a : Addr} {xs : List V} {ds : List PyData} (h : G a = some (.tup xs)) (r : DrAll G xs ds) : ItD C (Itt K a) G (ds.map D.py) := by
  intro M ok sg
  have hs : SqT K M.H a xs := .of (ok.g _ _ (sg _ _ h))
  refine ⟨fun i d hd => ?_, fun i hi => ⟨xs, hs, by rw [r.len]; simpa using hi⟩⟩
  obtain ⟨y, rfl, hy⟩ := map_py_get hd
  obtain ⟨v, hv, rv⟩ := r.get hy
  refine ⟨⟨xs, v, hs, hv⟩, fun x H' hq => ?_⟩
  obtain ⟨rfl, f⟩ := hq
  have q := f _ hs
  rw [hv] at q
  cases q
  exact ⟨M, rfl, .refl ok, rv.mono sg⟩
theorem ix_list (h : EX X L Wx .s e we) : IX X L Wx tg e (wItL we) := by
  obtain ⟨t, a1, a2⟩ := h
  refine ⟨_, pi_list a1, fun H0 M σ ρ θ R N Nx rep j hw hN hX => ?_⟩
  refine a2 H0 M σ ρ θ _ _ Nx rep j hw (fun d θ' M' v e' j' r n => ?_) hX
  obtain ⟨ds, rfl, n⟩ := n
  cases (show Dr M'.G v (.list ds) from r) with
  | lst h dr => exact ⟨_, rfl, ⟨_, .of (e'.ok.g _ _ h)⟩, hN _ θ' M' _ e' j' (itl_ok h dr) n⟩
theorem ix_tuple (h : EX X L Wx .s e we) : IX X L Wx tg e (wItT we) := by
  obtain ⟨t, a1, a2⟩ := h
  refine ⟨_, pi_tup a1, fun H0 M σ ρ θ R N Nx rep j hw hN hX => ?_⟩
  refine a2 H0 M σ ρ θ _ _ Nx rep j hw (fun d θ' M' v e' j' r n => ?_) hX
  obtain ⟨ds, rfl, n⟩ := n
  cases (show Dr M'.G v (.tuple ds) from r) with
  | tup h dr => exact ⟨_, rfl, ⟨_, .of (e'.ok.g _ _ h)⟩, hN _ θ' M' _ e' j' (itt_ok h dr) n⟩
def wItS {Θ : Type} (we : WE Θ) : WI Θ := fun ρ θ N Nx => we ρ θ (fun d θ' => ∃ z, d = .py (.str z) ∧ N (z.cps.toList.map fun c => D.py (.str ⟨#[c]⟩)) θ') Nx
theorem its_ok {G : Hp} {z : Str} : ItD C (Its z) G (z.cps.toList.map fun c => D.py (.str ⟨#[c]⟩)) := by
  intro M ok sg
  refine ⟨fun i d hd => ?_, fun i hi => (show z.cps.size ≤ i from by simpa using hi)⟩
  rw [List.getElem?_map] at hd
  cases q : z.cps.toList[i]? with
  | none => rw [q] at hd; cases hd
  | some c =>
    rw [q] at hd
    cases hd
    have q' : z.cps[i]? = some c := by rw [← Array.getElem?_toList]; exact q
    refine ⟨(Array.getElem?_eq_some_iff.mp q').1, fun x H' hq => ?_⟩
    obtain ⟨rfl, c', h1, rfl⟩ := hq
    rw [q'] at h1
    cases h1
    exact ⟨M, rfl, .refl ok, Dr.str _⟩
theorem ix_str (h : EX X L Wx m e we) : IX X L Wx tg e (wItS we) := by
  obtain ⟨t, a1, a2⟩ := h
  refine ⟨_, pi_str a1, fun H0 M σ ρ θ R N Nx rep j hw hN hX => ?_⟩
  refine a2 H0 M σ ρ θ _ _ Nx rep j hw (fun d θ' M' v e' j' r n => ?_) hX
  obtain ⟨z, rfl, n⟩ := n
  exact ⟨_, r.r.str, hN _ θ' M' _ e' j' its_ok n⟩
def rgD (lo : Int) (n : Nat) : List PyData := (List.range n).map fun i => .int (lo + (i : Nat))
theorem itr_ok {G : Hp} {lo : Int} {n : Nat} : ItD C (Itr lo n) G ((rgD lo n).map D.py) := by
  intro M ok sg
  refine ⟨fun i d hd => ?_, fun i hi => ?_⟩
  · obtain ⟨y, rfl, hy⟩ := map_py_get hd
    unfold rgD at hy
    rw [List.getElem?_map] at hy
    by_cases hi : i < n
    · rw [List.getElem?_range hi] at hy
      cases hy
      refine ⟨hi, fun x H' q => ?_⟩
      obtain ⟨rfl, rfl⟩ := q
      exact ⟨M, rfl, .refl ok, Dr.int _⟩
    · rw [List.getElem?_eq_none (by simpa using hi)] at hy
      cases hy
  · have : n ≤ i := by
      unfold rgD at hi
      simpa using hi
    exact this
def wRg1 {Θ : Type} (wr : WA Θ) : WI Θ := fun ρ θ N Nx => wr ρ θ (fun ds θ' => ∃ j, ds = [.py (.int j)] ∧ (-(2 ^ 62) ≤ j ∧ j < 2 ^ 62) ∧ N ((rgD 0 j.toNat).map D.py) θ') Nx
def wRg2 {Θ : Type} (wr : WA Θ) : WI Θ := fun ρ θ N Nx => wr ρ θ (fun ds θ' => ∃ i j, ds = [.py (.int i), .py (.int j)] ∧ (-(2 ^ 62) ≤ i ∧ i < 2 ^ 62 ∧ -(2 ^ 62) ≤ j ∧ j < 2 ^ 62) ∧ N ((rgD i (j - i).toNat).map D.py) θ') Nx
theorem ix_range1 (hm : X.mg "range" = none) (hg : Gl X "range") (h : AX X L Wx .r [a] wr) (hs : starEach [a] X.env = [(false, eval a X.env)] := by rfl) : IX X L Wx tg (.Call (.Name "range" p) [a] [] pos) (wRg1 wr) := by
  obtain ⟨t, a1, a2⟩ := h
  refine ⟨_, pi_range1 hg hm a1 hs, fun H0 M σ ρ θ R N Nx rep j hw hN hX => ?_⟩
  refine a2 H0 M σ ρ θ _ _ Nx rep j hw (fun ds θ' M' vs e' j' r n => ?_) hX
  obtain ⟨k, rfl, hb, n⟩ := n
  obtain ⟨v, rfl, r⟩ := pair1 r
  exact ⟨k, by rw [Re.int ‹Re L.C .r M' v _›], hb.1, hb.2, hN _ θ' M' _ e' j' itr_ok n⟩
theorem ix_range2 (hm : X.mg "range" = none) (hg : Gl X "range") (h : AX X L Wx .r [a, b] wr) (hs : starEach [a, b] X.env = [(false, eval a X.env), (false, eval b X.env)] := by rfl) (hs2 : starEach [b] X.env = [(false, eval b X.env)] := by rfl) : IX X L Wx tg (.Call (.Name "range" p) [a, b] [] pos) (wRg2 wr) := by
  obtain ⟨t, a1, a2⟩ := h
  refine ⟨_, pi_range2 hg hm a1 hs hs2, fun H0 M σ ρ θ R N Nx rep j hw hN hX => ?_⟩
  refine a2 H0 M σ ρ θ _ _ Nx rep j hw (fun ds θ' M' vs e' j' r n => ?_) hX
  obtain ⟨i, k, rfl, hb, n⟩ := n
  obtain ⟨v, u, rfl, r1, r2⟩ := pair2 r
  exact ⟨i, k, by rw [r1.int, r2.int], hb, hN _ θ' M' _ e' j' itr_ok n⟩
/-- enumerate(xs), zip(xs, ys) to a tuple of names -/
def enD : Nat → List PyData → List PyData
  | _, [] => []
  | i, d :: ds => .tuple [.int (i : Nat), d] :: enD (i + 1) ds
theorem enD_get : ∀ {ds : List PyData} {k i : Nat} {y : PyData}, (enD k ds)[i]? = some y → ∃ d, ds[i]? = some d ∧ y = .tuple [.int ((k + i : Nat)), d]
  | [], _, _, _, h => by simp [enD] at h
  | d :: ds, k, 0, y, h => by
    simp [enD] at h
    exact ⟨d, rfl, h.symm⟩
  | d :: ds, k, i + 1, y, h => by
    obtain ⟨e, h1, h2⟩ := enD_get (ds := ds) (k := k + 1) (i := i) (by simpa [enD] using h)
    refine ⟨e, by simpa using h1, ?_⟩
    rw [h2, show k + 1 + i = k + (i + 1) by omega]
theorem enD_len : ∀ (k : Nat) (ds : List PyData), (enD k ds).length = ds.length
  | _, [] => rfl
  | k, d :: ds => congrArg Nat.succ (enD_len (k + 1) ds)
theorem ite_ok {K : PySem.W.Frag} {G : Hp} {a : Addr} {xs : List V} {ds : List PyData} (h : G a = some (.lst xs)) (r : DrAll G xs ds) : ItD C (Ite K a) G ((enD 0 ds).map D.py) := by
  intro M ok sg
  have hs : SqL K M.H a xs := .of (ok.g _ _ (sg _ _ h))
  refine ⟨fun i d hd => ?_, fun i hi => ⟨xs, hs, by rw [r.len]; simpa [enD_len] using hi⟩⟩
  obtain ⟨y, rfl, hy⟩ := map_py_get hd
  obtain ⟨z, hz, rfl⟩ := enD_get hy
  obtain ⟨v, hv, rv⟩ := r.get hz
  refine ⟨⟨xs, v, hs, hv⟩, fun x H' hq => ?_⟩
  obtain ⟨T, u, rfl, nT, rfl, f⟩ := hq
  have q := f _ hs
  rw [hv] at q
  cases q
  have ex := Ext0.add ok (o := .tup [.int (i : Nat), v]) nT
  refine ⟨M.add T (.tup [.int (i : Nat), v]), rfl, ex, Dr.tup add_at (.cons ?_ (.cons ((rv.mono sg).mono ex.1.g) .nil))⟩
  rw [Nat.zero_add]
  exact .int _
def wEnum {Θ : Type} (wr : WA Θ) : WI Θ := fun ρ θ N Nx => wr ρ θ (fun xs θ' => ∃ ds, xs = [.py (.list ds)] ∧ N ((enD 0 ds).map D.py) θ') Nx
theorem ix_enum {elts : List Expr} {kk : Nat} {tpos : Pos} (hm : X.mg "enumerate" = none) (hg : Gl X "enumerate") (h : AX X L Wx .s [e] wr) (hs : starEach [e] X.env = [(false, eval e X.env)] := by rfl) : IX X L Wx (.Tuple elts kk tpos) (.Call (.Name "enumerate" p) [e] [] pos) (wEnum wr) := by
  obtain ⟨t, a1, a2⟩ := h
  refine ⟨_, pi_enum hg hm a1 hs, fun H0 M σ ρ θ R N Nx rep j hw hN hX => ?_⟩
  refine a2 H0 M σ ρ θ _ _ Nx rep j hw (fun xs θ' M' vs e' j' r n => ?_) hX
  obtain ⟨ds, rfl, n⟩ := n
  cases r with
  | cons h1 t =>
    cases t
    cases (show Dr M'.G _ (.list ds) from h1) with
    | lst h dr => exact ⟨_, _, rfl, .of (e'.ok.g _ _ h), hN _ θ' M' _ e' j' (ite_ok h dr) n⟩
def zipD : List PyData → List PyData → List PyData
  | d :: ds, e :: es => .tuple [d, e] :: zipD ds es
  | _, _ => []
theorem zipD_get : ∀ {ds es : List PyData} {i : Nat} {y : PyData}, (zipD ds es)[i]? = some y → ∃ d e, ds[i]? = some d ∧ es[i]? = some e ∧ y = .tuple [d, e]
  | [], _, _, _, h => by simp [zipD] at h
  | _ :: _, [], _, _, h => by simp [zipD] at h
  | d :: ds, e :: es, 0, y, h => by
    simp [zipD] at h
    exact ⟨d, e, rfl, rfl, h.symm⟩
  | d :: ds, e :: es, i + 1, y, h => by
    obtain ⟨d', e', h1, h2, h3⟩ := zipD_get (ds := ds) (es := es) (i := i) (by simpa [zipD] using h)
    exact ⟨d', e', by simpa using h1, by simpa using h2, h3⟩
theorem zipD_len : ∀ (ds es : List PyData) (i : Nat), (zipD ds es).length ≤ i → ds.length ≤ i ∨ es.length ≤ i
  | [], _, _, _ => .inl (Nat.zero_le _)
  | _ :: _, [], _, _ => .inr (Nat.zero_le _)
  | d :: ds, e :: es, 0, h => by simp [zipD] at h
  | d :: ds, e :: es, i + 1, h => by
    have q := zipD_len ds es i (by simpa [zipD] using h)
    rcases q with q | q
    · exact .inl (Nat.succ_le_succ q)
    · exact .inr (Nat.succ_le_succ q)
theorem itz_ok {K : PySem.W.Frag} {G : Hp} {a b : Addr} {xs ys : List V} {ds es : List PyData} (h : G a = some (.lst xs)) (r : DrAll G xs ds) (h2 : G b = some (.lst ys)) (r2 : DrAll G ys es) : ItD C (Itz K a b) G ((zipD ds es).map D.py) := by
  intro M ok sg
  have hs : SqL K M.H a xs := .of (ok.g _ _ (sg _ _ h))
  have hs2 : SqL K M.H b ys := .of (ok.g _ _ (sg _ _ h2))
  refine ⟨fun i d hd => ?_, fun i hi => ⟨xs, ys, hs, hs2, ?_⟩⟩
  · obtain ⟨y, rfl, hy⟩ := map_py_get hd
    obtain ⟨d1, e1, h3, h4, rfl⟩ := zipD_get hy
    obtain ⟨v, hv, rv⟩ := r.get h3
    obtain ⟨u, hu, ru⟩ := r2.get h4
    refine ⟨⟨xs, ys, v, u, hs, hs2, hv, hu⟩, fun x H' hq => ?_⟩
    obtain ⟨T, v', u', rfl, nT, rfl, f1, f2⟩ := hq
    have q := f1 _ hs
    rw [hv] at q
    cases q
    have q := f2 _ hs2
    rw [hu] at q
    cases q
    have ex := Ext0.add ok (o := .tup [v, u]) nT
    exact ⟨M.add T (.tup [v, u]), rfl, ex, Dr.tup add_at (.cons ((rv.mono sg).mono ex.1.g) (.cons ((ru.mono sg).mono ex.1.g) .nil))⟩
  · rw [r.len, r2.len]
    exact zipD_len ds es i (by simpa using hi)
def wZip {Θ : Type} (wr : WA Θ) : WI Θ := fun ρ θ N Nx => wr ρ θ (fun xs θ' => ∃ ds es, xs = [.py (.list ds), .py (.list es)] ∧ N ((zipD ds es).map D.py) θ') Nx
theorem ix_zip {elts : List Expr} {kk : Nat} {tpos : Pos} (hm : X.mg "zip" = none) (hg : Gl X "zip") (h : AX X L Wx .s [a, b] wr) (hs : starEach [a, b] X.env = (false, eval a X.env) :: starEach [b] X.env := by rfl) (hpl : (backTo pos (starEach [b] X.env)).any (·.1) = false := by rfl) : IX X L Wx (.Tuple elts kk tpos) (.Call (.Name "zip" p) [a, b] [] pos) (wZip wr) := by
  obtain ⟨t, a1, a2⟩ := h
  refine ⟨_, pi_zip hg hm a1 hs hpl, fun H0 M σ ρ θ R N Nx rep j hw hN hX => ?_⟩
  refine a2 H0 M σ ρ θ _ _ Nx rep j hw (fun xs θ' M' vs e' j' r n => ?_) hX
  obtain ⟨ds, es, rfl, n⟩ := n
  cases r with
  | cons h1 t =>
    cases t with
    | cons h2 t =>
      cases t
      cases (show Dr M'.G _ (.list ds) from h1) with
      | lst g1 d1 =>
        cases (show Dr M'.G _ (.list es) from h2) with
        | lst g2 d2 => exact ⟨_, _, _, _, rfl, .of (e'.ok.g _ _ g1), .of (e'.ok.g _ _ g2), hN _ θ' M' _ e' j' (itz_ok g1 d1 g2 d2) n⟩
/-! ### list(range(..)) -/
def rgC (i c : Int) (n : Nat) : List Int := (List.range n).map fun k => i + (k : Nat) * c
theorem small_list {n : Nat} {f : Nat → Int} {acc : Array Value} (h : ItemsOf (fun i v => ∃ t, v = .int (f i) t) acc n) : Vals (((List.range n).map f).map V.int) acc.toList := by
  have hl : acc.toList.length = n := by rw [Array.length_toList]; exact h.1
  rw [List.map_map]
  have q := vals_of_get acc.toList (V.int ∘ f) fun j u hj => by
    obtain ⟨t, rfl⟩ := h.2 j u (by rw [← hj, Array.getElem?_toList])
    exact ⟨t, rfl⟩
  rw [hl] at q
  exact q
def tLR (t : TA) : TE := fun σ H Q => t σ H fun vs H1 => ∃ i j c n, vs = [.int i, .int j, .int c] ∧ RgC i j c n ∧ n ≤ 2 ^ 24 ∧ ∀ q, H1 q = none → Q (.ref q) (upd H1 q (.lst ((rgC i c n).map V.int)))
theorem pe_lr {t : TA} (hc : X.calm = true) (hg : Gl X "list") (hm : X.mg "list" = none) (hg2 : Gl X "range") (hm2 : X.mg "range" = none) (ha : PA X [a, b, c] t) (hs : starEach [a, b, c] X.env = (false, eval a X.env) :: starEach [b, c] X.env) (hpl : (backTo p2 (starEach [b, c] X.env)).any (·.1) = false)
    {p3 : Pos} (na : starEach [.Call (.Name "range" p3) [a, b, c] [] p2] X.env = (false, eval (.Call (.Name "range" p3) [a, b, c] [] p2) X.env) :: starEach [] X.env) : PE X (.Call (.Name "list" p) [.Call (.Name "range" p3) [a, b, c] [] p2] [] pos) (tLR t) := by
  refine ⟨fun pins s σ H Q I h => ?_⟩
  refine Call_ (ld_blt I hg hm boot_list (PyProof.Rows.callWith_type1 (args_cons (Call_ (ld_blt I hg2 hm2 boot_range (PyProof.Rows.callWith_type1 (thn (ha.run p2 pins s σ H _ I h) fun us s1 z => ?_) hs hpl))) na) na))
  obtain ⟨vs, H1, I1, r1, i, j, k, n, rfl, ⟨k0, k1, k2, k3⟩, hn, q⟩ := z
  cases r1 with
  | cons ra rr =>
    cases rr with
    | cons rb rr =>
      cases rr with
      | cons rc rr =>
        cases rr
        obtain ⟨t1, rfl⟩ := ra
        obtain ⟨t2, rfl⟩ := rb
        obtain ⟨t3, rfl⟩ := rc
        refine call_range_3 k0 (args_nil ?_) (.inl (PyProof.noPylong_small k1))
        have I2 : Inv X pins σ H1 { s1 with heap := s1.heap.push { cls := .type "range", data := .fields #[.int i t1, .int j t2, .int k t3] } } := I1.kept (t' := s1.toks) fun b o z => Heap.get?_push_of_some _ z
        refine call_list_range (n := n) (I2.ok.hd hc) (IsRange.new ..) k2 k3 hn fun h' tk acc c' hk e' hi => ?_
        have hv := small_list hi
        refine ⟨.ref (s1.heap.push { cls := .type "range", data := .fields #[.int i t1, .int j t2, .int k t3] }).objs.size, _, I2.laid (o := .lst ((rgC i k n).map V.int)) hk (Nat.le_refl _) ⟨?_, acc.toList, c', hv, ?_⟩, rfl, q _ (I2.hok.fresh (Nat.le_refl _))⟩
        · rw [List.length_map, rgC, List.length_map, List.length_range, sizeLine_eq]
          omega
        · rw [Array.toArray_toList]
          exact e'
def wLR {Θ : Type} (wr : WA Θ) : WE Θ := fun ρ θ N Nx => wr ρ θ (fun ds θ' => ∃ i j c n, ds = [.py (.int i), .py (.int j), .py (.int c)] ∧ RgC i j c n ∧ n ≤ 2 ^ 24 ∧ N (.py (.list ((rgC i c n).map .int))) θ') Nx
theorem ex_lr {p3 : Pos} (hc : X.calm = true) (hm : X.mg "list" = none) (hm2 : X.mg "range" = none) (hg : Gl X "list") (hg2 : Gl X "range") (ha : AX X L Wx .r [a, b, c] wr) (hs : starEach [a, b, c] X.env = (false, eval a X.env) :: starEach [b, c] X.env := by rfl) (hpl : (backTo p2 (starEach [b, c] X.env)).any (·.1) = false := by rfl)
    (na : starEach [.Call (.Name "range" p3) [a, b, c] [] p2] X.env = (false, eval (.Call (.Name "range" p3) [a, b, c] [] p2) X.env) :: starEach [] X.env := by rfl) : EX X L Wx .s (.Call (.Name "list" p) [.Call (.Name "range" p3) [a, b, c] [] p2] [] pos) (wLR wr) := by
  obtain ⟨t, a1, a2⟩ := ha
  refine ⟨_, pe_lr hc hg hm hg2 hm2 a1 hs hpl na, fun H0 M σ ρ θ Q N Nx rep j hw hN hX => ?_⟩
  refine a2 H0 M σ ρ θ _ _ Nx rep j hw (fun ds θ1 M1 vs e1 j1 r1 n1 => ?_) hX
  obtain ⟨i, k, c, n, rfl, hr, hn, nn⟩ := n1
  cases r1 with
  | cons h1 t =>
    cases t with
    | cons h2 t =>
      cases t with
      | cons h3 t =>
        cases t
        refine ⟨i, k, c, n, by rw [h1.int, h2.int, h3.int], hr, hn, new_lst (C := L.C) e1.ok (.of_ints _) fun M' v e r => hN (.py (.list ((rgC i c n).map .int))) θ1 M' v (e1.trans e.1) (L.ext0 e j1) r nn⟩
/-- list(range(a, b)) -/
def wLR2 {Θ : Type} (wa wb : WE Θ) : WE Θ := fun ρ θ N Nx => wa ρ θ (fun x θ1 => wb ρ θ1 (fun y θ2 => ∃ i j, x = .py (.int i) ∧ y = .py (.int j) ∧ RgOk i j ∧ N (.py (.list (rgD i (j - i).toNat))) θ2) Nx) Nx
theorem rgV_dr {G : Hp} (i j : Int) : DrAll G (rgV i j) (rgD i (j - i).toNat) := by
  unfold rgV rgD
  have h : ∀ l : List Nat, DrAll G (l.map fun k => V.int (i + (k : Nat))) (l.map fun k => PyData.int (i + (k : Nat))) := by
    intro l
    induction l with
    | nil => exact .nil
    | cons k r ih => exact .cons (.int _) ih
  exact h _
theorem ex_lr2 {p3 : Pos} (hc : X.calm = true) (hm : X.mg "list" = none) (hm2 : X.mg "range" = none) (hg : Gl X "list") (hg2 : Gl X "range") (ha : EX X L Wx m a wa) (hb : EX X L Wx m' b wb) (na : starEach [a, b] X.env = (false, eval a X.env) :: starEach [b] X.env := by rfl)
    (nb : starEach [b] X.env = (false, eval b X.env) :: starEach [] X.env := by rfl) (hp : (backTo p2 (starEach [b] X.env)).any (·.1) = false := by rfl) (nn : starEach [.Call (.Name "range" p3) [a, b] [] p2] X.env = (false, eval (.Call (.Name "range" p3) [a, b] [] p2) X.env) :: starEach [] X.env := by rfl) :
    EX X L Wx .s (.Call (.Name "list" p) [.Call (.Name "range" p3) [a, b] [] p2] [] pos) (wLR2 wa wb) := by
  obtain ⟨t, a1, a2⟩ := ha
  obtain ⟨u, b1, b2⟩ := hb
  refine ⟨_, pe_listRg hc hg hm (prg_2 hg2 hm2 a1 b1 na nb hp) nn, fun H0 M σ ρ θ Q N Nx rep j hw hN hX => ?_⟩
  refine a2 H0 M σ ρ θ _ _ Nx rep j hw (fun x θ1 M1 v1 e1 j1 r1 n1 => ?_) hX
  refine b2 H0 M1 σ ρ θ1 _ _ Nx (rep.ext e1) j1 n1 (fun y θ2 M2 v2 e2 j2 r2 n2 => ?_) (fun k θ' M' e j n => hX k θ' M' (e1.trans e) j n)
  obtain ⟨i, k, rfl, rfl, hr, nn⟩ := n2
  exact ⟨i, k, (r1.ext e2).r.int, r2.r.int, hr, new_lst (C := L.C) e2.ok (rgV_dr i k) fun M' v e r => hN (.py (.list (rgD i (k - i).toNat))) θ2 M' v (e1.trans (e2.trans e.1)) (L.ext0 e j2) r nn⟩
/-! ### readings that do not hang on the context -/
abbrev WF : WX := fun _ _ _ _ => False
def tOf (L : Vl) (Wx : WX) (m : Md) (w : WE L.Θ) : TE := fun σ H Q => ∃ (H0 : Hp) (M : Wd) (ρ : DS) (θ : L.Θ) (N : D → L.Θ → Prop) (Nx : EK → L.Θ → Prop), M.H = H ∧ Rep L.C H0 M σ ρ ∧ L.at θ M ∧ w ρ θ N Nx ∧
  (∀ d θ' M' v, Ext M M' → L.at θ' M' → Re L.C m M' v d → N d θ' → Q v M'.H) ∧ ∀ k θ' M', Ext M M' → L.at θ' M' → Nx k θ' → Wx (.ref (L.C k)) none σ M'.H
theorem EX.pe (h : EX X L Wx m e we) : PE X e (tOf L Wx m we) := by
  obtain ⟨t, h1, h2⟩ := h
  refine ⟨fun pins s σ H Q I q => ?_⟩
  obtain ⟨H0, M, ρ, θ, N, Nx, rfl, rep, j, hw, hN, hX⟩ := q
  exact h1.run pins s σ M.H Q I (h2 H0 M σ ρ θ Q N Nx rep j hw hN hX)
def ttOf (L : Vl) (Wx : WX) (w : WT L.Θ) : TT := fun σ H Q => ∃ (H0 : Hp) (M : Wd) (ρ : DS) (θ : L.Θ) (N : Bool → L.Θ → Prop) (Nx : EK → L.Θ → Prop), M.H = H ∧ Rep L.C H0 M σ ρ ∧ L.at θ M ∧ w ρ θ N Nx ∧
  (∀ b θ' M', Ext M M' → L.at θ' M' → N b θ' → Q b M'.H) ∧ ∀ k θ' M', Ext M M' → L.at θ' M' → Nx k θ' → Wx (.ref (L.C k)) none σ M'.H
/-- a clause's tests -/
structure TXs (X : Cx) (L : Vl) (Wx : WX) (ifs : List Expr) (w : WT L.Θ) : Prop where
  pt : PTs X ifs (ttOf L Wx w)
def wYes {Θ : Type} : WT Θ := fun _ θ N _ => N true θ
theorem txs_nil : TXs X L Wx [] wYes := by
  refine ⟨⟨fun pins s σ H Q I q => pts_nil.run pins s σ H Q I ?_⟩⟩
  obtain ⟨H0, M, ρ, θ, N, Nx, rfl, rep, j, hw, hN, hX⟩ := q
  exact hN true θ M (.refl rep.ok) j hw
theorem txs_one {w : WT L.Θ} (h : TX X L Wx c w) : TXs X L Wx [c] w := by
  obtain ⟨t, h1, h2⟩ := h
  refine ⟨⟨fun pins s σ H Q I q => (pts_one h1).run pins s σ H Q I ?_⟩⟩
  obtain ⟨H0, M, ρ, θ, N, Nx, rfl, rep, j, hw, hN, hX⟩ := q
  exact h2 H0 M σ ρ θ Q N Nx rep j hw hN hX
def tgOf (C : EK → Addr) (is : List Nat) (g : WG) : TG := fun v σ H Q => ∃ (H0 : Hp) (M : Wd) (ρ : DS) (d : D) (N : DS → Prop), M.H = H ∧ Rep C H0 M σ ρ ∧ Rv C M.G v d ∧ g d ρ N ∧ ∀ σ' ρ', Upto is σ σ' → Rep C H0 M σ' ρ' → N ρ' → Q σ' M.H
theorem GX.pg {is : List Nat} {g : WG} (h : GX X C is tg g) : PG X tg (tgOf C is g) := by
  obtain ⟨t, h1, h2⟩ := h
  refine ⟨fun pins s σ H v u Q I r q => h1.run pins s σ H v u Q I r ?_⟩
  obtain ⟨H0, M, ρ, d, N, rfl, rep, rv, hg, k⟩ := q
  exact h2 H0 M σ ρ v d Q N rep rv hg k
/-! ### list comprehensions -/
def lcGo {Θ : Type} (g : WG) (tt : WT Θ) (wl : WE Θ) (ρ : DS) (N : D → Θ → Prop) : List D → List PyData → Θ → Prop
  | [], acc, θ => N (.py (.list acc)) θ
  | d :: ds, acc, θ => g d ρ fun ρ1 => tt ρ1 θ (fun b θ1 => if b = true then wl ρ1 θ1 (fun y θ2 => ∃ x, y = .py x ∧ acc.length < sizeLine ∧ lcGo g tt wl ρ N ds (acc ++ [x]) θ2) (fun _ _ => False) else lcGo g tt wl ρ N ds acc θ1) (fun _ _ => False)
def wLc {Θ : Type} (wi : WI Θ) (g : WG) (tt : WT Θ) (wl : WE Θ) (vs : List Nat) : WE Θ := fun ρ θ N Nx => wi ρ θ (fun ds θ1 => lcGo g tt wl (wipeD ρ vs) N ds [] θ1) Nx
theorem rx_lc {wi : WI L.Θ} {is vs : List Nat} {g : WG} {tt : WT L.Θ} {wl : WE L.Θ} {ti : TI} (hi : RXi L Wx ti wi) (his : ∀ i ∈ is, i ∈ vs) : RXe L Wx .s (tLc ti (tgOf L.C is g) (ttOf L WF tt) (tOf L WF .s wl) vs) (wLc wi g tt wl vs) := by
  intro H0 M σ ρ θ Q N Nx rep j hw hN hX
  refine hi H0 M σ ρ θ _ _ Nx rep j hw (fun ds θ1 M1 J e1 j1 hJ n1 => ?_) hX
  intro P np
  have rep1 := rep.ext e1
  obtain ⟨gP, zP⟩ := e1.ok.free np
  have start : Ext M1 (M1.put P (.lst [])) := ext_put (.refl e1.ok) gP zP np
  refine ⟨fun i k H => k = ds.length - i ∧ i ≤ ds.length ∧ ∃ M2 θ2 acc vals, M2.H = H ∧ Ext M1 M2 ∧ M2.H P = some (.lst vals) ∧ M2.G P = none ∧ M2.Z P = none ∧ DrAll M2.G vals acc ∧ L.at θ2 M2 ∧ lcGo g tt wl (wipeD ρ vs) N (ds.drop i) acc θ2, ⟨ds.length, by simp, Nat.zero_le _, M1.put P (.lst []), θ1, [], [], rfl, start, upd_same, gP, zP, .nil, j1, n1⟩, ?_⟩
  rintro i k H2 ⟨rfl, hi, M2, θ2, acc, vals, rfl, e2, hP, gP2, zP2, dr, j2, n2⟩
  obtain ⟨go, stop⟩ := hJ M2 e2.ok e2.g
  by_cases hlt : i < ds.length
  · have hd : ds[i]? = some ds[i] := List.getElem?_eq_getElem hlt
    obtain ⟨h1, h2⟩ := go i _ hd
    rw [List.drop_eq_getElem_cons hlt] at n2
    refine .inr ⟨h1, fun H' => ∃ M3 θ3 acc vals, M3.H = H' ∧ Ext M1 M3 ∧ M3.H P = some (.lst vals) ∧ M3.G P = none ∧ M3.Z P = none ∧ DrAll M3.G vals acc ∧ L.at θ3 M3 ∧ lcGo g tt wl (wipeD ρ vs) N (ds.drop (i + 1)) acc θ3, fun H' q => ⟨_, by omega, rfl, hlt, q⟩, fun x H' hy => ?_⟩
    obtain ⟨M3, rfl, e3, r3⟩ := h2 x H' hy
    have e13 := e2.trans e3.1
    refine ⟨H0, M3, wipeD ρ vs, ds[i], _, rfl, (rep1.ext e13).wipe vs, r3, n2, fun σ4 ρ4 up rep4 n4 => ⟨?_, ?_⟩⟩
    · have w1 := up.wipe his
      have w2 : L2.wipe (L2.wipe σ vs) vs = L2.wipe σ vs := by
        apply List.ext_getElem?
        intro q
        rw [wipe_get, wipe_get, wipe_length]
        by_cases hq : q ∈ vs
        · rw [if_pos hq, if_pos hq]
        · rw [if_neg hq, if_neg hq]
      rw [w1, w2]
    · obtain ⟨hP3, gP3, zP3⟩ := e3.1.k P _ hP zP2
      refine ⟨H0, M3, ρ4, θ2, _, _, rfl, rep4, L.ext0 e3 j2, n4, fun b θ5 M5 e5 j5 n5 => ?_, fun _ _ _ _ _ q => q.elim⟩
      obtain ⟨hP5, gP5, zP5⟩ := e5.k P _ hP3 zP3
      have g5 : M5.G P = none := gP5.trans (gP3.trans gP2)
      have dr5 : DrAll M5.G vals acc := (dr.mono e3.1.g).mono e5.g
      have e15 := e13.trans e5
      cases b with
      | false => exact ⟨M5, θ5, acc, vals, rfl, e15, hP5, g5, zP5, dr5, j5, n5⟩
      | true =>
        refine ⟨H0, M5, ρ4, θ5, _, _, rfl, rep4.ext e5, j5, n5, fun y θ6 M6 v6 e6 j6 r6 n6 => ?_, fun _ _ _ _ _ q => q.elim⟩
        obtain ⟨z, rfl, hl, n6⟩ := n6
        obtain ⟨hP6, gP6, zP6⟩ := e6.k P _ hP5 zP5
        have g6 : M6.G P = none := gP6.trans g5
        have dr6 : DrAll M6.G vals acc := dr5.mono e6.g
        refine ⟨vals, hP6, by rw [dr6.len]; exact hl, M6.put P (.lst (vals ++ [v6])), θ6, acc ++ [z], vals ++ [v6], rfl, ext_put (e15.trans e6) g6 zP6 np, upd_same, g6, zP6, dr6.append (.one r6), j6, n6⟩
  · have ei : ds.drop i = [] := List.drop_eq_nil_of_le (by omega)
    rw [ei] at n2
    obtain ⟨ef, sg⟩ := ext_frz e2 hP gP2 zP2 np
    exact .inl ⟨stop i (by omega), hN (.py (.list acc)) θ2 (M2.frz P (.lst vals)) _ (e1.trans ef) (L.mono sg j2) (Dr.lst upd_same (dr.mono sg)) n2⟩
section
variable {elt iter : Expr} {ifs : List Expr} {scope : Scope} {own : List (Str × Nat)} {is : List Nat} {wi : WI L.Θ} {g : WG} {tt : WT L.Θ} {wl : WE L.Θ}
theorem ex_lc (hc : X.calm = true) (hN : X.N.Nodup) (own : List (Str × Nat)) (hi : IX X L Wx tg iter wi) (ok : BlkOk X.N X.env.scope scope own)
    (hg : ∀ (s : Shared) (H : Hp) (P : Addr) (cl : List (Str × Addr)) (fp : List Addr), GX (X.blk s H scope (compEnvC scope cl P X.env) fp) L.C is tg g) (ht : ∀ (s : Shared) (H : Hp) (P : Addr) (cl : List (Str × Addr)) (fp : List Addr), TXs (X.blk s H scope (compEnvC scope cl P X.env) fp) L WF ifs tt)
    (he : ∀ (s : Shared) (H : Hp) (P : Addr) (cl : List (Str × Addr)) (fp : List Addr), EX (X.blk s H scope (compEnvC scope cl P X.env) fp) L WF .s elt wl) (his : ∀ i ∈ is, i ∈ own.map (·.2) := by decide) (hs : ∀ x, foldedSetIterable iter X.env x = pure x := by intro _; rfl) :
    EX X L Wx .s (.ListComp elt [⟨tg, iter, ifs, 0⟩] scope pos) (wLc wi g tt wl (own.map (·.2))) := by
  obtain ⟨ti, i1, i2⟩ := hi
  exact ⟨_, pe_lc hc hN i1 ok (fun s H P cl fp => (hg s H P cl fp).pg) (fun s H P cl fp => (ht s H P cl fp).pt) (fun s H P cl fp => (he s H P cl fp).pe) hs, rx_lc i2 his⟩
theorem sx_setLc (i : Nat) {y : Str} {py spos : Pos} (hc : X.calm = true) (hN : X.N.Nodup) (own : List (Str × Nat)) (hi : IX X L Wx tg iter wi) (ok : BlkOk X.N X.env.scope scope own)
    (hg : ∀ (s : Shared) (H : Hp) (P : Addr) (cl : List (Str × Addr)) (fp : List Addr), GX (X.blk s H scope (compEnvC scope cl P X.env) fp) L.C is tg g) (ht : ∀ (s : Shared) (H : Hp) (P : Addr) (cl : List (Str × Addr)) (fp : List Addr), TXs (X.blk s H scope (compEnvC scope cl P X.env) fp) L WF ifs tt)
    (he : ∀ (s : Shared) (H : Hp) (P : Addr) (cl : List (Str × Addr)) (fp : List Addr), EX (X.blk s H scope (compEnvC scope cl P X.env) fp) L WF .s elt wl) (hsw : swapsWith (.ListComp elt [⟨tg, iter, ifs, 0⟩] scope pos) (some (.Name y py)) spos.line X.env = pure true) (his : ∀ i ∈ is, i ∈ own.map (·.2) := by decide)
    (hy : X.N[i]? = some y := by rfl) (hyl : X.env.scope.names.lookup y = some .local := by rfl) (hs : ∀ x, foldedSetIterable iter X.env x = pure x := by intro _; rfl) :
    SX X L Wx (.Assign [.Name y py] (.ListComp elt [⟨tg, iter, ifs, 0⟩] scope pos) spos) (wSet i (wLc wi g tt wl (own.map (·.2)))) := by
  obtain ⟨ti, i1, i2⟩ := hi
  exact ⟨_, ps_setLc hc hN hy hyl hsw i1 ok (fun s H P cl fp => (hg s H P cl fp).pg) (fun s H P cl fp => (ht s H P cl fp).pt) (fun s H P cl fp => (he s H P cl fp).pe) hs, rs_set (rx_lc i2 his)⟩
end
/-! ### texts -/
def wM1 {Θ : Type} (f : F2) (okc : D → D → Prop) (wa wb : WE Θ) : WE Θ := fun ρ θ N Nx => wa ρ θ (fun x θ1 => ∃ z, x = .py (.str z) ∧ wb ρ θ1 (fun y θ2 => ∃ d, f x y = some d ∧ okc x y ∧ N d θ2) Nx) Nx
theorem rx_m1 {f : F2} {okc : D → D → Prop} {r : V → List V → Hp → VK → Prop} {t u : TE} (h1 : RXe L Wx m t wa) (h2 : RXe L Wx m' u wb)
    (hr : ∀ (M : Wd) (x y : V) (dx dy d : D) (Q : VK), M.Ok → Re L.C .r M x dx → Re L.C .r M y dy → f dx dy = some d → okc dx dy → (∀ M' v, Ext0 M M' → Rv L.C M'.G v d → Q v M'.H) → r x [y] M.H Q) : RXe L Wx .s (tM1 r t u) (wM1 f okc wa wb) := by
  intro H0 M σ ρ θ Q N Nx rep j hw hN hX
  refine h1 H0 M σ ρ θ _ _ Nx rep j hw (fun x θ1 M1 v1 e1 j1 r1 n1 => ?_) hX
  obtain ⟨z, rfl, n1⟩ := n1
  refine ⟨⟨z, r1.r.str⟩, ?_⟩
  refine h2 H0 M1 σ ρ θ1 _ _ Nx (rep.ext e1) j1 n1 (fun y θ2 M2 v2 e2 j2 r2 n2 => ?_) (fun k θ' M' e j n => hX k θ' M' (e1.trans e) j n)
  obtain ⟨d, hf, hok, n⟩ := n2
  exact hr M2 v1 v2 _ y d Q e2.ok (r1.ext e2).r r2.r hf hok (fun M' v e r => hN d θ2 M' v (e1.trans (e2.trans e.1)) (L.ext0 e j2) r n)
/-- the texts of data -/
def strsOf : List PyData → Option (List Str)
  | [] => some []
  | .str i :: r => (strsOf r).map (i :: ·)
  | _ :: _ => none
theorem strsOf_eq : ∀ {ds : List PyData} {ns : List Str}, strsOf ds = some ns → ds = ns.map .str
  | [], _, h => by cases h; rfl
  | .str i :: r, ns, h => by
    have h' : (strsOf r).map (i :: ·) = some ns := h
    cases e : strsOf r with
    | none => rw [e] at h'; cases h'
    | some es =>
      rw [e] at h'
      have h2 : i :: es = ns := Option.some.inj h'
      subst h2
      rw [List.map_cons, ← strsOf_eq e]
  | .none :: _, _, h => by cases h
  | .bool _ :: _, _, h => by cases h
  | .int _ :: _, _, h => by cases h
  | .list _ :: _, _, h => by cases h
  | .tuple _ :: _, _, h => by cases h
  | .dict _ :: _, _, h => by cases h
theorem strsOf_map : ∀ ns : List Str, strsOf (ns.map .str) = some ns
  | [] => rfl
  | n :: ns => by
    show (strsOf (ns.map .str)).map (n :: ·) = _
    rw [strsOf_map ns]
    rfl
def fSplit : F2
  | .py (.str a), .py (.str b) => some (.py (.list ((Txt.split a b).map .str)))
  | _, _ => none
def kSplit : D → D → Prop
  | .py (.str a), .py (.str b) => (b.length == 0) = false ∧ a.length + 2 ≤ sizeLine
  | _, _ => True
theorem ex_split {apos : Pos} (ho : EX X L Wx m a wa) (he : EX X L Wx m' e we) (hs : starEach [e] X.env = [(false, eval e X.env)] := by rfl) (hbase : attributeBase a "split" X.env (eval a X.env) = eval a X.env := by rfl) (hline : (apos.endLine == pos.line) = true := by rfl) :
    EX X L Wx .s (.Call (.Attribute a "split" apos) [e] [] pos) (wM1 fSplit kSplit wa we) := by
  obtain ⟨t, a1, a2⟩ := ho
  obtain ⟨u, b1, b2⟩ := he
  refine ⟨_, pe_split a1 b1 hs hbase hline, rx_m1 a2 b2 fun M x y dx dy d Q ok rx ry hf hk q => ?_⟩
  unfold fSplit at hf
  split at hf
  · cases hf
    exact ⟨_, _, rx.str, by rw [ry.str], hk.1, hk.2, new_lst ok (.of_strs _) q⟩
  · cases hf
def fPart : F2
  | .py (.str a), .py (.str b) => some (.py (.tuple [.str (Txt.partition a b).1, .str (Txt.partition a b).2.1, .str (Txt.partition a b).2.2]))
  | _, _ => none
def kPart : D → D → Prop
  | .py (.str a), .py (.str b) => (b.length == 0) = false ∧ a.length ≤ sizeLine
  | _, _ => True
theorem ex_part {apos : Pos} (ho : EX X L Wx m a wa) (he : EX X L Wx m' e we) (hs : starEach [e] X.env = [(false, eval e X.env)] := by rfl) (hbase : attributeBase a "partition" X.env (eval a X.env) = eval a X.env := by rfl) (hline : (apos.endLine == pos.line) = true := by rfl) :
    EX X L Wx .s (.Call (.Attribute a "partition" apos) [e] [] pos) (wM1 fPart kPart wa we) := by
  obtain ⟨t, a1, a2⟩ := ho
  obtain ⟨u, b1, b2⟩ := he
  refine ⟨_, pe_partition a1 b1 hs hbase hline, rx_m1 a2 b2 fun M x y dx dy d Q ok rx ry hf hk q => ?_⟩
  unfold fPart at hf
  split at hf
  · cases hf
    exact ⟨_, _, rx.str, by rw [ry.str], hk.1, hk.2, new_tup ok (.cons (.str _) (.cons (.str _) (.cons (.str _) .nil))) q⟩
  · cases hf
def fJoin : F2
  | .py (.str a), .py (.list ds) => (strsOf ds).map fun ys => .py (.str (Txt.join a ys))
  | _, _ => none
def kJoin : D → D → Prop
  | .py (.str a), .py (.list ds) => ∀ ys, strsOf ds = some ys → (ys.map (·.length)).sum + ys.length * a.length ≤ 16777216
  | _, _ => True
theorem ex_join {apos : Pos} (ho : EX X L Wx m a wa) (he : EX X L Wx m' e we) (hs : starEach [e] X.env = [(false, eval e X.env)] := by rfl) (hbase : attributeBase a "join" X.env (eval a X.env) = eval a X.env := by rfl) (hline : (apos.endLine == pos.line) = true := by rfl) :
    EX X L Wx .s (.Call (.Attribute a "join" apos) [e] [] pos) (wM1 fJoin kJoin wa we) := by
  obtain ⟨t, a1, a2⟩ := ho
  obtain ⟨u, b1, b2⟩ := he
  refine ⟨_, pe_join a1 b1 hs hbase hline, rx_m1 a2 b2 fun M x y dx dy d Q ok rx ry hf hk q => ?_⟩
  unfold fJoin at hf
  split at hf
  · rename_i a ds
    cases h : strsOf ds with
    | none => rw [h] at hf; cases hf
    | some ys =>
      rw [h] at hf
      cases hf
      cases strsOf_eq h
      obtain ⟨p, xs, rfl, h1, r1⟩ := Re.list ok ry
      cases r1.strs
      exact ⟨a, p, ys, rx.str, rfl, .inl (.of h1), hk ys h, q M _ (.refl ok) (Dr.str _)⟩
  · cases hf
/-! f'..' -/
def wFmt {Θ : Type} (we : WE Θ) : WE Θ := fun ρ θ N Nx => we ρ θ (fun d θ' => (∃ y, d = .py (.str y) ∧ y.length ≤ sizeLine ∧ N (.py (.str y)) θ') ∨ ∃ i : Int, d = .py (.int i) ∧ i.natAbs.log2 < 1920 ∧ N (.py (.str (toString i))) θ') Nx
theorem ex_fmt (he : EX X L Wx m e we) : EX X L Wx .s (.FormattedValue e (-1) none pos) (wFmt we) := by
  obtain ⟨t, a1, a2⟩ := he
  refine ⟨_, pe_fmt a1, fun H0 M σ ρ θ Q N Nx rep j hw hN hX => ?_⟩
  refine a2 H0 M σ ρ θ _ _ Nx rep j hw (fun d θ1 M1 v1 e1 j1 r1 n1 => ?_) hX
  rcases n1 with ⟨y, rfl, hl, n⟩ | ⟨i, rfl, hl, n⟩
  · exact .inl ⟨y, r1.r.str, hl, hN (.py (.str y)) θ1 M1 _ e1 j1 (Dr.str _) n⟩
  · exact .inr ⟨i, r1.r.int, hl, hN (.py (.str (toString i))) θ1 M1 _ e1 j1 (Dr.str _) n⟩
def wJs {Θ : Type} : List (WE Θ) → Str → DS → Θ → (Str → Θ → Prop) → (EK → Θ → Prop) → Prop
  | [], acc, _, θ, N, _ => N acc θ
  | w :: ws, acc, ρ, θ, N, Nx => w ρ θ (fun d θ' => ∃ y, d = .py (.str y) ∧ (acc ++ y).length ≤ sizeLine ∧ wJs ws (acc ++ y) ρ θ' N Nx) Nx
structure JX (X : Cx) (L : Vl) (Wx : WX) (es : List Expr) (ws : List (WE L.Θ)) : Prop where
  ex : ∃ ts, PJ X es ts ∧ ∀ (acc : Str) (H0 : Hp) (M : Wd) (σ : L2.St) (ρ : DS) (θ : L.Θ) (Q : Str → Hp → Prop) (N : Str → L.Θ → Prop) (Nx : EK → L.Θ → Prop), Rep L.C H0 M σ ρ → L.at θ M → wJs ws acc ρ θ N Nx →
    (∀ s θ' M', Ext M M' → L.at θ' M' → N s θ' → Q s M'.H) → (∀ k θ' M', Ext M M' → L.at θ' M' → Nx k θ' → Wx (.ref (L.C k)) none σ M'.H) → tJs ts acc σ M.H Q
theorem jx_nil : JX X L Wx [] [] := ⟨[], .nil, fun acc H0 M σ ρ θ Q N Nx rep j hw hN hX => hN acc θ M (.refl rep.ok) j hw⟩
theorem jx_cons {ws : List (WE L.Θ)} (he : EX X L Wx .s e we) (hr : JX X L Wx es ws) : JX X L Wx (e :: es) (we :: ws) := by
  obtain ⟨t, a1, a2⟩ := he
  obtain ⟨ts, b1, b2⟩ := hr
  refine ⟨t :: ts, .cons a1 b1, fun acc H0 M σ ρ θ Q N Nx rep j hw hN hX => ?_⟩
  refine a2 H0 M σ ρ θ _ _ Nx rep j hw (fun d θ1 M1 v1 e1 j1 r1 n1 => ?_) hX
  obtain ⟨y, rfl, hl, n⟩ := n1
  exact ⟨y, (show Re L.C .s M1 v1 (.py (.str y)) from r1).r.str, hl, b2 (acc ++ y) H0 M1 σ ρ θ1 Q N Nx (rep.ext e1) j1 n (fun s θ' M' e j n => hN s θ' M' (e1.trans e) j n) (fun k θ' M' e j n => hX k θ' M' (e1.trans e) j n)⟩
def wJoined {Θ : Type} (ws : List (WE Θ)) : WE Θ := fun ρ θ N Nx => wJs ws Str.empty ρ θ (fun s θ' => N (.py (.str s)) θ') Nx
theorem ex_joined {v1 v2 : Expr} {rest : List Expr} {ws : List (WE L.Θ)} (h : JX X L Wx (v1 :: v2 :: rest) ws) : EX X L Wx .s (.JoinedStr (v1 :: v2 :: rest) pos) (wJoined ws) := by
  obtain ⟨ts, a1, a2⟩ := h
  exact ⟨_, pe_joined a1, fun H0 M σ ρ θ Q N Nx rep j hw hN hX => a2 Str.empty H0 M σ ρ θ _ _ Nx rep j hw (fun s θ' M' e' j' n => hN (.py (.str s)) θ' M' _ e' j' (Dr.str _) n) hX⟩
/-! ### isinstance of data -/
def tyName : PyData → String
  | .none => "NoneType" | .bool _ => "bool" | .int _ => "int" | .str _ => "str" | .list _ => "list" | .tuple _ => "tuple" | .dict _ => "dict"
theorem ty_of {K : PySem.W.Frag} {M : Wd} {v : V} {d : PyData} (ok : M.Ok) (r : Re C .r M v (.py d)) : TyX K M.H v (.type (tyName d)) := by
  rcases r with r | ⟨a, xs, ds, rfl, e, h, _⟩
  · cases (show Dr M.G v d from r) with
    | non => exact .base .non
    | bl b => exact .base (.bl b)
    | int i => exact .base (.int i)
    | str x => exact .base (.str x)
    | lst h _ => exact .base (.lst (ok.g _ _ h))
    | tup h _ => exact .base (.tup (ok.g _ _ h))
  · cases e
    exact .base (.lst h)
def isiB (T t : String) : Bool := t == T || (t == "bool" && T == "int")
def wIsi {Θ : Type} (T : String) (we : WE Θ) : WE Θ := fun ρ θ N Nx => we ρ θ (fun x θ' => ∃ d, x = .py d ∧ N (.py (.bool (isiB T (tyName d)))) θ') Nx
theorem ex_isi {T : Str} {pT : Pos} (U : String) (hm : X.mg "isinstance" = none) (hmT : X.mg T = none) (hg : Gl X "isinstance") (hgT : Gl X T) (he : EX X L Wx m e we) (hT : bootBuiltins T = some (.type U) := by decide +kernel) (hk : ∀ t ∈ ["NoneType", "bool", "int", "str", "list", "tuple", "dict"], kitB t U = some (isiB U t) := by decide +kernel) (hnT : T ≠ "__name__" := by decide) (hdT : (T == ("__debug__" : Str)) = false := by decide)
    (h1 : starEach [e, .Name T pT] X.env = (false, eval e X.env) :: starEach [.Name T pT] X.env := by rfl) (h2 : starEach [.Name T pT] X.env = (false, eval (.Name T pT) X.env) :: starEach [] X.env := by rfl) (hpl : (backTo pos (starEach [.Name T pT] X.env)).any (·.1) = false := by rfl) :
    EX X L Wx .s (.Call (.Name "isinstance" p) [e, .Name T pT] [] pos) (wIsi U we) := by
  obtain ⟨t, a1, a2⟩ := he
  refine ⟨_, pe_callB call_isi hg hm (by decide +kernel) (pa_cons a1 (pa_cons (pe_bltn (v := .ty U) hgT hmT hT rfl hnT hdT) pa_nil h2) h1) (by decide) (by decide) h1 hpl, fun H0 M σ ρ θ Q N Nx rep j hw hN hX => ?_⟩
  refine a2 H0 M σ ρ θ _ _ Nx rep j hw (fun x θ1 M1 v1 e1 j1 r1 n1 => ?_) hX
  obtain ⟨d, rfl, n⟩ := n1
  have hb : kitB (tyName d) U = some (isiB U (tyName d)) := hk _ (by cases d <;> simp [tyName])
  exact ⟨v1, .ty U, _, _, _, rfl, .ty U, ty_of e1.ok r1.r, kit_ty hb, hN (.py (.bool (isiB U (tyName d)))) θ1 M1 _ e1 j1 (Dr.bl _) n⟩
end RT
end
section
set_option Elab.async false
set_option linter.all false
set_option maxRecDepth 100000
set_option maxHeartbeats 2000000
theorem L2.Room.u65 {k : Nat} {A : PySem.Around} (r : L2.Room k A) : A.units + 65 < PySem.cLine := by
  have h := r.un
  omega
namespace RT
open PySem PySem.Spec PyProof.Rows L2
variable {X : Cx} {L : Vl} {Wx : WX} {C : EK → Addr} {m m' : Md} {tg e a b c : Expr} {es : List Expr} {we wa wb wc : WE L.Θ} {wr : WA L.Θ} {pos p p2 : Pos}
def wNeg {Θ : Type} (wa : WE Θ) : WE Θ := fun ρ θ N Nx => wa ρ θ (fun x θ1 => ∃ i, x = .py (.int i) ∧ N (.py (.int (-i))) θ1) Nx
theorem ex_neg (ha : EX X L Wx m a wa) : EX X L Wx .s (.UnaryOp .USub a pos) (wNeg wa) := by
  obtain ⟨t, a1, a2⟩ := ha
  refine ⟨_, pe_un un_neg a1, fun H0 M σ ρ θ Q N Nx rep j hw hN hX => ?_⟩
  refine a2 H0 M σ ρ θ _ _ Nx rep j hw (fun x θ1 M1 v1 e1 j1 r1 n1 => ?_) hX
  obtain ⟨i, rfl, n⟩ := n1
  exact ⟨i, r1.r.int, hN (.py (.int (-i))) θ1 M1 _ e1 j1 (Dr.int _) n⟩
abbrev kInts : D → D → Prop := fun x y => (∃ i, x = .py (.int i)) ∧ ∃ j, y = .py (.int j)
abbrev kMulI : D → D → Prop := fun x y => ∃ i j, x = .py (.int i) ∧ y = .py (.int j) ∧ CMul i j
/-- x = [a, b, ..], x an own list from here on -/
def wNewD {Θ : Type} (i : Nat) (wr : WA Θ) : WS Θ := fun N ρ θ => wr ρ θ (fun xs θ' => ∃ ds, pys xs = some ds ∧ ds.length ≤ sizeLine ∧ N.nx (ρ.set i (.own ds)) θ') N.ex
theorem sx_newD (i : Nat) {x : Str} {pos' p2 : Pos} (hN : X.N.Nodup) (ha : AX X L Wx .s es wr) (hi : X.N[i]? = some x := by rfl) (hx : Loc X.env.scope x := by first | exact Or.inl rfl | exact Or.inr rfl) (hs : swapsWith (.List es p2) (some (.Name x pos')) pos.line X.env = pure false := by rfl)
    (hf : X.fn x = true ∨ X.env.scope.names.lookup x = some .local := by first | exact .inl rfl | exact .inr rfl | assumption) : SX X L Wx (.Assign [.Name x pos'] (.List es p2) pos) (wNewD i wr) := by
  obtain ⟨t, a1, a2⟩ := ha
  refine ⟨_, ps_set hN hi hx (pe_lst a1) hs hf, fun M0 M σ ρ θ E N e rep j hw f => ?_⟩
  refine a2 M0.H M σ ρ θ _ _ N.ex rep j hw (fun xs θ1 M1 vs e1 j1 r1 n1 => ?_) (fun k θ' M' e' j' n => f.ex M' σ k θ' (e.trans e') j' n)
  obtain ⟨ds, hp, hl, n⟩ := n1
  have dr := pys_dr hp r1
  refine ⟨by rw [dr.len]; exact hl, fun p np => ?_⟩
  have e2 := e.trans e1
  exact f.nx (M1.put p (.lst vs)) _ _ θ1 (ext_put e2 (e1.ok.free np).1 (e1.ok.free np).2 (e2.t p np)) e1.g ((rep.ext e1).newOwn i np (e2.t p np) dr) j1 n
/-- x = x + e, x an own list -/
def wOwnCat {Θ : Type} (i : Nat) (we : WE Θ) : WS Θ := fun N ρ θ => ∃ ds, ρ[i]? = some (.own ds) ∧ we ρ θ (fun y θ' => ∃ es, y = .py (.list es) ∧ ds.length + es.length ≤ sizeLine ∧ N.nx (ρ.set i (.own (ds ++ es))) θ') N.ex
theorem sx_ownCat (i : Nat) {x : Str} {pos' p1 p2 : Pos} (hN : X.N.Nodup) (he : EX X L Wx m e we) (hi : X.N[i]? = some x := by rfl) (hx : Loc X.env.scope x := by first | exact Or.inl rfl | exact Or.inr rfl) (hv : Vis X.env.scope x := by first | exact Or.inl rfl | exact Or.inr (Or.inl rfl) | exact Or.inr (Or.inr rfl)) (hs : swapsWith (.BinOp (.Name x p1) .Add e p2) (some (.Name x pos')) pos.line X.env = pure false := by rfl)
    (hd : (x == ("__debug__" : Str)) = false := by decide) (hcd : (x == ("__classdict__" : Str)) = false := by decide)
    (hf : X.fn x = true ∨ X.env.scope.names.lookup x = some .local := by first | exact .inl rfl | exact .inr rfl | assumption) : SX X L Wx (.Assign [.Name x pos'] (.BinOp (.Name x p1) .Add e p2) pos) (wOwnCat i we) := by
  obtain ⟨t, a1, a2⟩ := he
  refine ⟨_, ps_set hN hi hx (pe_op op_cat (pe_var hi hv hd hcd) a1) hs hf, fun M0 M σ ρ θ E N e rep j hw f => ?_⟩
  obtain ⟨ds, h, hw⟩ := hw
  obtain ⟨a, xs, s0, _⟩ := rep.getOwn h
  refine ⟨_, s0, ?_⟩
  refine a2 M0.H M σ ρ θ _ _ N.ex rep j hw (fun y θ1 M1 v1 e1 j1 r1 n1 => ?_) (fun k θ' M' e' j' n => f.ex M' σ k θ' (e.trans e') j' n)
  obtain ⟨es, rfl, hl, n⟩ := n1
  obtain ⟨b, zs, rfl, hb, rz⟩ := Re.list e1.ok r1.r
  have rep1 := rep.ext e1
  obtain ⟨a', xs', s', g1, z1, h0, hx', rx⟩ := rep1.getOwn h
  have ea : a' = a := by
    have q := s'.symm.trans s0
    injection q with q
    injection q with q
    injection q
  subst ea
  refine ⟨a', b, xs', zs, rfl, rfl, hx', hb, by rw [rx.len, rz.len]; exact hl, fun p np => ?_⟩
  have e2 := e.trans e1
  exact f.nx (M1.put p (.lst (xs' ++ zs))) _ _ θ1 (ext_put e2 (e1.ok.free np).1 (e1.ok.free np).2 (e2.t p np)) e1.g (rep1.newOwn i np (e2.t p np) (rx.append rz)) j1 n
/-- a, b = (x, y) of plain local names -/
def wPar2 {Θ : Type} (i k : Nat) (wr : WA Θ) : WS Θ := fun N ρ θ => wr ρ θ (fun xs θ' => ∃ d1 d2, xs = [d1, d2] ∧ N.nx ((ρ.set i (.is d1)).set k (.is d2)) θ') N.ex
theorem sx_par2 (i k : Nat) {x y : Str} {px py pt : Pos} {kt k2 : Nat} {pt2 : Pos} (hN : X.N.Nodup) (ha : AX X L Wx .s [a, b] wr) (hc : X.calm = true := by rfl) (hi : X.N[i]? = some x := by rfl) (hj : X.N[k]? = some y := by rfl) (hij : i ≠ k := by decide)
    (hx : X.env.scope.names.lookup x = some .local := by rfl) (hy : X.env.scope.names.lookup y = some .local := by rfl)
    (hw : swappedStores [.Tuple [.Name x px, .Name y py] kt pt] (.Tuple [a, b] k2 pt2) X.env = pure (some [x, y]) := by rfl)
    (hs : swapsWithSole [.Tuple [.Name x px, .Name y py] kt pt] (.Tuple [a, b] k2 pt2) pos.line X.env = pure false := by rfl) : SX X L Wx (.Assign [.Tuple [.Name x px, .Name y py] kt pt] (.Tuple [a, b] k2 pt2) pos) (wPar2 i k wr) := by
  obtain ⟨t, a1, a2⟩ := ha
  refine ⟨_, ps_par hc hN hi hj hij hx hy a1 hw hs, fun M0 M σ ρ θ E N e rep j hw f => ?_⟩
  refine a2 M0.H M σ ρ θ _ _ N.ex rep j hw (fun xs θ1 M1 vs e1 j1 r1 n1 => ?_) (fun k θ' M' e' j' n => f.ex M' σ k θ' (e.trans e') j' n)
  obtain ⟨d1, d2, rfl, n⟩ := n1
  cases r1 with
  | cons h1 t =>
    cases t with
    | cons h2 t =>
      cases t
      exact ⟨_, _, rfl, f.nx M1 _ _ θ1 (e.trans e1) e1.g (((rep.ext e1).set i h1).set k h2) j1 n⟩
/-! ### sorted(set(xs)), xs a list of ints -/
end RT
end
section
set_option Elab.async false
set_option linter.all false
set_option maxRecDepth 100000
set_option maxHeartbeats 6400000
namespace RT
open PySem PySem.Spec PyProof.Rows L2
section
variable {P : Program} {w : World} {A : Around} {E : Value → Shared → Prop} {s : Shared}
/-- set(xs) of a list of ints: what is told of the set, and that all stays -/
abbrev freshSet (w : World) : Obj := { cls := .type "set", dict := none, data := .set #[] 0 (.fresh 0 0 (!w.params.followText "set-order")) }
theorem set_of_list {l : Addr} {items : Array Value} (ns : List Int) {Q : Value → Shared → Prop} (calm : A.handled = none) (isl : s.heap.IsList l items) (hints : IntsAre items.toList ns) (room : ns.length + 1 < scanBound)
    (k : ∀ (h' : Heap) (tk c : Nat), SetR w h' s.heap.objs.size (fun j => decide (j ∈ ns)) c → (∀ b o, s.heap.get? b = some o → h'.get? b = some o) → Q (.ref s.heap.objs.size) { s with heap := h', toks := tk }) :
    wpAny (model P w) A (call (.type "set") [.ref l]) Q E s := by
  have sz : items.size = ns.length := (Array.length_toList (xs := items)).symm.trans (IntsAre.length hints)
  obtain ⟨c0, tl0, hm0⟩ := F.called_set.mro
  have q1 := F.called_set.made
  have q2 := F.called_set.sub
  refine wpAny_call (codeAny_of_tree ?_)
  change wpAny _ _ (callAny (.type "set") _) _ _ _
  refine wpAny_pure ⟨Code.quiet_builtin _ (by decide +kernel), codeAny_builtin F.entry_type_call ?_⟩
  rw [Around.under_plain (weight_type_call_type "set" [.ref l] []) rfl]
  have q3 := F.called_set.notType
  have q4 := F.called_set.canCreate
  have q5 := F.typeCall_set_1 (.ref l)
  repeat (any_goals (first | assumption | wp_step))
  refine codeAny_mono (code_set_led1 (.ref l) (E := E) (Q₁ := fun obj s₁ => obj = .ref s.heap.objs.size ∧ s₁ = { s with heap := s.heap.push (freshSet w) }) ⟨rfl, rfl⟩) fun r s₁ hr => ?_
  match r, hr with
  | .error _, hr => exact hr
  | .ok (.next), hr => exact hr.elim
  | .ok (.brk), hr => exact hr.elim
  | .ok (.cont), hr => exact hr.elim
  | .ok (.ret obj), hr =>
    obtain ⟨eo, es⟩ := hr
    subst eo
    subst es
    have at0 : (s.heap.push (freshSet w)).get? s.heap.objs.size = some (freshSet w) := Heap.get?_push_size _ rfl
    have ty0 : Shared.TypeIs { s with heap := s.heap.push (freshSet w) } (.ref s.heap.objs.size) "set" := ⟨_, at0, rfl⟩
    have q6 := F.called_set.init.lookup
    have q7 := F.called_set.init.bind (.ref s.heap.objs.size)
    repeat (any_goals (first | assumption | wp_step))
    refine codeAny_mono (codeAny_call_builtin (R := wants (fun r s₂ => r = .none ∧ ∃ h' tk c, s₂ = { s with heap := h', toks := tk } ∧ SetR w h' s.heap.objs.size (fun j => decide (j ∈ ns)) c ∧ ∀ b o, s.heap.get? b = some o → h'.get? b = some o) E) F.called_set.init.plain F.entry_set_init (check_set_init_1 ty0 ?_)) fun r₂ s₂ hr₂ => ?_
    · obtain ⟨⟨oc, od, oda, osl⟩, hol, hcl, nl, hdl⟩ := isl
      have ecl : oc = .type "list" := hcl
      have eda : oda = .seq items nl := hdl
      subst ecl
      subst eda
      have hol' : (s.heap.push (freshSet w)).get? l = some { cls := .type "list", dict := od, data := .seq items nl, slots := osl } := Heap.get?_push_of_some _ hol
      have q8 := F.sub_list_set
      have q9 := F.sub_list_frozenset
      have q10 : (Value.type "list" == Value.type "dict") = false := by decide
      have isl1 : (s.heap.push (freshSet w)).IsList l items := ⟨_, hol', rfl, nl, rfl⟩
      unfold Builtin.«set.__init__» noKeywords Builtin.Frozenset.updateFrom
      generalize eI : pyIter = PI
      wp_walk
      subst eI
      refine wpAny_pyIter_list isl1 ?_
      refine wpAny_bind (wpAny_runValue ?_)
      have lt0 : l < s.heap.objs.size := Heap.lt_size hol
      have calm3 : A.in1.in1.in1.handled = none := by simp [calm]
      have size1 : (s.heap.push (freshSet w)).objs.size = s.heap.objs.size + 1 := Heap.size_push ..
      have apart : l ≠ (s.heap.push (freshSet w)).objs.size := by
        rw [size1]
        exact Nat.ne_of_lt (Nat.lt_succ_of_lt lt0)
      have notIn : s.heap.objs.size ∉ [(s.heap.push (freshSet w)).objs.size, l] := by
        rw [size1]
        simp only [List.mem_cons, List.not_mem_nil, or_false, not_or]
        exact ⟨Nat.ne_of_lt (Nat.lt_succ_self _), Nat.ne_of_gt lt0⟩
      have vals : ∀ (i : Nat) (v : Value), items[i]? = some v → ∃ k t, ns[i]? = some k ∧ v = .int k t := fun i v hv => by
        have hi : i < ns.length := by
          rw [← sz]
          exact (Array.getElem?_eq_some_iff.mp hv).1
        obtain ⟨t, e⟩ := PyProof.Rows.IntsAre.int_at hints i v (by rw [Array.getElem?_toList]; exact hv)
        refine ⟨ns[i], t, List.getElem?_eq_getElem hi, ?_⟩
        rw [e, List.getD_eq_getElem?_getD, List.getElem?_eq_getElem hi]
        rfl
      refine set_update_ints ((Walks.list calm3 _ l apart items).toS) s.heap.objs.size notIn ns sz room vals (items.size - 0) 0 _ (by omega) (Nat.zero_le _) ⟨⟨_, Heap.get?_push_size _ rfl, rfl, rfl⟩, isl1.push _⟩ ?first ?last
      case first =>
        have g : ((s.heap.push (freshSet w)).push { cls := .type "list_iterator", data := .fields #[.ref l, .int 0 0] }).get? s.heap.objs.size = some (freshSet w) := Heap.get?_push_of_some _ at0
        exact ⟨0, Nat.le_refl 0, setR_new_at g⟩
      case last =>
        intro s' c' hm hc' hS'
        obtain ⟨h', g2, d', tk', os'⟩ := s'
        have e1 : g2 = s.gens := hm.gens
        have e2 : d' = s.drawn := hm.drawn
        have e3 : os' = s.os := hm.os
        subst e1
        subst e2
        subst e3
        refine wpAny_pure ?_
        change wpAny _ _ (ret Value.none) _ _ _
        refine wpAny_pure ⟨rfl, h', tk', c', rfl, hS', fun b o e => ?_⟩
        have b0 : b < s.heap.objs.size := Heap.lt_size e
        refine hm.heap b o ?_ (Heap.get?_push_of_some _ (Heap.get?_push_of_some _ e))
        simp only [List.mem_cons, List.not_mem_nil, or_false, not_or]
        exact ⟨Nat.ne_of_lt b0, by rw [size1]; exact Nat.ne_of_lt (Nat.lt_succ_of_lt b0)⟩
    · match r₂, hr₂ with
      | .error _, hr₂ => exact hr₂
      | .ok (.next), hr₂ => exact hr₂.elim
      | .ok (.brk), hr₂ => exact hr₂.elim
      | .ok (.cont), hr₂ => exact hr₂.elim
      | .ok (.ret _), hr₂ =>
        obtain ⟨e0, h', tk, c', e1, hS', hk'⟩ := hr₂
        subst e0
        subst e1
        repeat (any_goals (first | assumption | wp_step))
        exact k _ _ _ hS' hk'
end
end RT
end
section
set_option Elab.async false
set_option linter.all false
set_option maxRecDepth 100000
set_option maxHeartbeats 2000000
namespace RT
open PySem PySem.Spec PyProof.Rows L2
variable {X : Cx} {L : Vl} {Wx : WX} {C : EK → Addr} {m m' : Md} {tg e a b c : Expr} {es : List Expr} {we wa wb wc : WE L.Θ} {wr : WA L.Θ} {pos p p2 : Pos}
theorem few_ints {l : List Int} (nd : l.Nodup) (h : ∀ k ∈ l, 0 ≤ k ∧ k < 60) : l.length ≤ 60 := by
  have q := nat_nodup_len (l.map Int.toNat) (List.range 60) ?_ ?_
  · rw [List.length_map, List.length_range] at q
    exact q
  · rw [List.Nodup, List.pairwise_map]
    refine List.Pairwise.imp_of_mem (fun {x y} hx hy ne e => ?_) nd
    have hx := h x hx
    have hy := h y hy
    exact ne (by omega)
  · intro x hx
    obtain ⟨k, hk, rfl⟩ := List.mem_map.mp hx
    have := h k hk
    exact List.mem_range.mpr (by omega)
def rSetI (K : PySem.W.Frag) (w : World) : List V → Hp → VK → Prop := fun xs H Q => ∃ (l : Addr) (ns : List Int), xs = [V.ref l] ∧ SqL K H l (ns.map V.int) ∧ ns.length ≤ 4000 ∧ (∀ k ∈ ns, 0 ≤ k ∧ k < 60) ∧
  ∀ (p : Addr) (c : Nat), H p = none → c ≤ 60 → Q (.ref p) (upd H p (SetO w p (fun j => decide (j ∈ ns)) c))
theorem cr_setI (hc : X.calm = true) : CallR X (.type "set") (rSetI X.K X.w) := by
  intro pins s σ H xs us Q I r h
  obtain ⟨l, ns, rfl, hs, hn, hb, q⟩ := h
  obtain ⟨its, rv, hl, _⟩ := I.list hs
  rw [Vals.ref1 r]
  refine set_of_list (P := X.prog) (w := X.w) ns (I.ok.hd hc) hl.isList (by simpa using rv.ints) (by unfold scanBound; omega) fun h' tk c hS hk => ?_
  have hc60 : c ≤ 60 := by
    obtain ⟨o, es, ep, t, ho, hx, hd, g, nd, mm, hbd, hf, hsz, _⟩ := hS
    rw [← hsz]
    have q := few_ints nd fun k hk => hb k (of_decide_eq_true ((mm k).mpr hk))
    simpa using q
  have new := I.hok.fresh (Nat.le_refl s.heap.objs.size)
  exact ⟨.ref _, upd H s.heap.objs.size (SetO X.w s.heap.objs.size (fun j => decide (j ∈ ns)) c), I.laid (t' := tk) hk (Nat.le_refl _) (setO_new hS), rfl, q _ c new hc60⟩
def setL (ns : List Int) : List Int := ((List.range 60).map fun k : Nat => (k : Int)).filter fun k => decide (k ∈ ns)
theorem asc_uniq : ∀ {l r : List Int}, l.Pairwise (· < ·) → r.Pairwise (· < ·) → (∀ k, k ∈ l ↔ k ∈ r) → l = r
  | [], [], _, _, _ => rfl
  | [], x :: r, _, _, h => absurd ((h x).mpr List.mem_cons_self) (by simp)
  | x :: l, [], _, _, h => absurd ((h x).mp List.mem_cons_self) (by simp)
  | x :: l, y :: r, hl, hr, h => by
    obtain ⟨h1, h2⟩ := List.pairwise_cons.mp hl
    obtain ⟨h3, h4⟩ := List.pairwise_cons.mp hr
    have e : x = y := by
      rcases List.mem_cons.mp ((h x).mp List.mem_cons_self) with e | hx
      · exact e
      · rcases List.mem_cons.mp ((h y).mpr List.mem_cons_self) with e | hy
        · exact e.symm
        · have := h3 x hx
          have := h1 y hy
          omega
    subst e
    rw [asc_uniq h2 h4 fun k => ?_]
    constructor
    · intro hk
      rcases List.mem_cons.mp ((h k).mp (List.mem_cons_of_mem _ hk)) with e | q
      · subst e
        exact absurd (h1 _ hk) (Int.lt_irrefl _)
      · exact q
    · intro hk
      rcases List.mem_cons.mp ((h k).mpr (List.mem_cons_of_mem _ hk)) with e | q
      · subst e
        exact absurd (h3 _ hk) (Int.lt_irrefl _)
      · exact q
theorem setL_asc (ns : List Int) : (setL ns).Pairwise (· < ·) := by
  refine List.Pairwise.filter _ ?_
  rw [List.pairwise_map]
  exact List.Pairwise.imp (fun {x y} h => by omega) List.pairwise_lt_range
theorem mem_setL {ns : List Int} (h : ∀ k ∈ ns, 0 ≤ k ∧ k < 60) (k : Int) : k ∈ setL ns ↔ k ∈ ns := by
  unfold setL
  rw [List.mem_filter]
  constructor
  · intro q
    exact of_decide_eq_true q.2
  · intro q
    refine ⟨List.mem_map.mpr ⟨k.toNat, List.mem_range.mpr ?_, ?_⟩, decide_eq_true q⟩
    · have := h k q
      omega
    · have := h k q
      omega
def wSortSet {Θ : Type} (wa : WE Θ) : WE Θ := fun ρ θ N Nx => wa ρ θ (fun x θ1 => ∃ ds ns, x = .py (.list ds) ∧ intsOf ds = some ns ∧ ns.length ≤ 4000 ∧ (∀ k ∈ ns, 0 ≤ k ∧ k < 60) ∧ N (.py (.list ((setL ns).map .int))) θ1) Nx
theorem ex_sortSet {p3 : Pos} (hc : X.calm = true) (hm : X.mg "sorted" = none) (hm2 : X.mg "set" = none) (hg : Gl X "sorted") (hg2 : Gl X "set") (ha : EX X L Wx m a wa)
    (h1 : starEach [a] X.env = (false, eval a X.env) :: starEach [] X.env := by rfl) (h2 : starEach [.Call (.Name "set" p3) [a] [] p2] X.env = (false, eval (.Call (.Name "set" p3) [a] [] p2) X.env) :: starEach [] X.env := by rfl) :
    EX X L Wx .s (.Call (.Name "sorted" p) [.Call (.Name "set" p3) [a] [] p2] [] pos) (wSortSet wa) := by
  obtain ⟨t, a1, a2⟩ := ha
  refine ⟨_, pe_callB (cr_sortedSet hc) hg hm (by decide +kernel) (pa_cons (pe_callTy (cr_setI hc) hg2 hm2 (by decide +kernel) (pa_cons a1 pa_nil h1) (by decide) (by decide) h1 rfl) pa_nil h2) (by decide) (by decide) h2 rfl, fun H0 M σ ρ θ Q N Nx rep j hw hN hX => ?_⟩
  refine a2 H0 M σ ρ θ _ _ Nx rep j hw (fun x θ1 M1 v1 e1 j1 r1 n1 => ?_) hX
  obtain ⟨ds, ns, rfl, hi, hn, hb, n⟩ := n1
  obtain ⟨l, rfl, hl⟩ := re_ints e1.ok r1.r hi
  refine ⟨l, ns, rfl, .of hl, hn, hb, fun q c nq hc => ?_⟩
  refine ⟨q, _, c, rfl, upd_same, by omega, fun ms r asc mm len nr => ?_⟩
  have em : ms = setL ns := asc_uniq asc (setL_asc ns) fun k => by
    rw [mm k, mem_setL hb k]
    exact ⟨fun z => of_decide_eq_true z, fun z => decide_eq_true z⟩
  subst em
  obtain ⟨gq, zq⟩ := e1.ok.free nq
  have x1 : Ext M1 (M1.put q (SetO X.w q (fun j => decide (j ∈ ns)) c)) := ext_put (.refl e1.ok) gq zq nq
  have x2 := Ext0.add x1.ok (o := .lst ((setL ns).map V.int)) nr
  exact hN (.py (.list ((setL ns).map .int))) θ1 _ (.ref r) (e1.trans (x1.trans x2.1)) (L.ext0 ⟨x1.trans x2.1, rfl⟩ j1) (Dr.lst add_at (.of_ints _)) n
end RT
end
section
set_option Elab.async false
set_option linter.all false
set_option maxRecDepth 100000
set_option maxHeartbeats 2000000
namespace RT
open PySem PySem.Spec PyProof.Rows L2
/-! ### draws of a script -/
inductive DrawSt where
  | pre (s : Addr) | on (a : Addr)
def DrawJ (K : PySem.W.Frag) : DrawSt → Hp → Hp → Prop
  | .pre s, G, Z => (∀ b, Z b = none) ∧ ∃ ns : List Int, ns.length ≤ 63 ∧ SqL K G s (ns.map V.int)
  | .on a, _, Z => ∃ (b : Addr) (c : Int) (ns : List Int), a ≠ b ∧ Z a = some (.lst [.ref b, .int c]) ∧ Z b = some (.lst (ns.map V.int)) ∧ ns ≠ [] ∧ ns.length ≤ 63
theorem SqL.mono' {K : PySem.W.Frag} {G G' : Hp} {a : Addr} {xs : List V} (s : Same G G') (h : SqL K G a xs) : SqL K G' a xs :=
  h.elim (fun h => .inl (h.elim (fun h => .inl (s _ _ h)) fun ⟨o, h⟩ => .inr ⟨o, s _ _ h⟩)) fun h => .inr h
theorem DrawJ.mono {K : PySem.W.Frag} : ∀ {θ : DrawSt} {G G' Z : Hp}, Same G G' → DrawJ K θ G Z → DrawJ K θ G' Z
  | .pre _, _, _, _, s, ⟨h, ns, hl, hq⟩ => ⟨h, ns, hl, SqL.mono' s hq⟩
  | .on _, _, _, _, _, h => h
abbrev VD (K : PySem.W.Frag) (C : EK → Addr) : Vl := ⟨C, DrawSt, DrawJ K, DrawJ.mono⟩
def spd_draw : Spec DrawSt := fun ds θ N _ => ∃ (a : Addr) (lim : Int), ds = [.rf a, .py (.int lim)] ∧ θ = .on a ∧ 0 < lim ∧ lim < 1073741824 ∧ ∀ n, 0 ≤ n → n < lim → N (.py (.int n)) (.on a)
def spd_start : Spec DrawSt := fun ds θ N _ => ∃ s : Addr, ds = [.rf s] ∧ θ = .pre s ∧ ∀ a, N (.rf a) (.on a)
/-! the readings of the two defs -/
abbrev rMod : R2 := rI (fun _ j => 0 < j) fun i j => .int (i % j)
abbrev rFd : R2 := rI CDiv fun i j => .int (i / j)
abbrev rAd : R2 := rI0 fun i j => .int (i + j)
abbrev rMu : R2 := rI CMul fun i j => .int (i * j)
abbrev rPw : R2 := rI CPow fun i j => .int (i ^ j.toNat)
abbrev rGe : R2 := rI0 fun i j => .bl (decide (j ≤ i))
abbrev rLenL (K : PySem.W.Frag) : List V → Hp → VK → Prop := fun xs H Q => ∃ p ys, xs = [V.ref p] ∧ (SqL K H p ys ∨ SqT K H p ys) ∧ Q (.int ys.length) H
def drawT (K : PySem.W.Frag) : TS :=
  tSeq (tAsg (tOp (rIxL K) (tVar 0) (tC (.int 0))) (gName 2))
  (tSeq (tAsg (tOp rAd (tOp (rIxL K) (tVar 0) (tC (.int 1))) (tC (.int 1))) (gSub (tVar 0) (tC (.int 1)) rSetL))
  (tSeq (tAsg (tOp rMod (tOp (rIxL K) (tVar 0) (tC (.int 1))) (tCB (rLenL K) (tCons (tVar 2) tNil))) (gName 3))
  (tSeq (tAsg (tOp (rIxL K) (tVar 2) (tVar 3)) (gName 4))
  (tSeq (tIfS (tTest (tOp rGe (tVar 4) (tC (.int 1000000000000000000))))
      (tSeq (tAsg (tOp rFd (tVar 4) (tVar 1)) (gSub (tVar 2) (tVar 3) rSetL)) (tRet (tOp rMod (tVar 4) (tVar 1)))) tNext)
  (tSeq (tAsg (tOp rMod (tOp rAd (tVar 4) (tOp rMu (tC (.int 104729)) (tOp (rIxL K) (tVar 0) (tC (.int 1))))) (tC (.int 4294967291))) (gName 5))
  (tSeq (tAsg (tOp rMod (tOp rPw (tVar 5) (tC (.int 5))) (tC (.int 4294967279))) (gName 5))
    (tRet (tOp rMod (tOp rFd (tOp rMod (tOp rAd (tOp rMu (tOp rFd (tVar 5) (tC (.int 64))) (tC (.int 69621))) (tVar 5)) (tC (.int 4294967231))) (tC (.int 8))) (tVar 1)))))))))
def startT (K : PySem.W.Frag) (rNe : R2) (rL : List V → Hp → VK → Prop) : TS :=
  tRet (tLst (tCons (tIf (tTest (tOp rNe (tVar 0) (tLst tNil))) (tCB rL (tCons (tVar 0) tNil)) (tLst (tCons (tC (.int 0)) tNil))) (tCons (tC (.int 0)) tNil)))
theorem atI_nat {α : Type} {xs : List α} {i : Int} {x : α} (h0 : 0 ≤ i) (h : xs[i.toNat]? = some x) : atI xs i = some x := by
  have hl := lt_of_get h
  unfold atI ixN
  rw [if_pos h0, if_pos (by omega)]
  exact h
theorem draw_sem {K : PySem.W.Frag} {H : Hp} {E : Ends} {a b : Addr} {lim c : Int} {ns : List Int} (ha : H a = some (.lst [.ref b, .int c])) (hb : H b = some (.lst (ns.map V.int))) (ne : a ≠ b) (hn : ns ≠ []) (h1 : 0 < lim) (h2 : lim < 1073741824)
    (hq : ∀ n c' ns', 0 ≤ n → n < lim → ns' ≠ [] → ns'.length = ns.length → E.rt (.int n) (upd (upd H a (.lst [.ref b, .int c'])) b (.lst (ns'.map V.int)))) : drawT K E [some (.ref a), some (.int lim), none, none, none, none] H := by
  have hln : 0 < ns.length := List.length_pos_iff.mpr hn
  refine ⟨.ref a, rfl, a, _, 0, .ref b, rfl, rfl, .of ha, rfl, ?_⟩
  refine ⟨.ref a, rfl, a, _, 1, .int c, rfl, rfl, .of ha, rfl, c, 1, rfl, rfl, ?_⟩
  refine ⟨.ref a, rfl, a, _, 1, 1, rfl, rfl, ha, rfl, ?_⟩
  refine ⟨.ref a, rfl, a, _, 1, .int (c + 1), rfl, rfl, .of upd_same, rfl, .ref b, rfl, b, _, rfl, .inl (.of (by rw [upd_ne (Ne.symm ne)]; exact hb)), ?_⟩
  have hl : ((ns.map V.int).length : Int) = ns.length := by rw [List.length_map]
  refine ⟨_, _, rfl, rfl, by rw [hl]; omega, ?_⟩
  rw [hl]
  dsimp only
  have m0 : 0 ≤ (c + 1) % (ns.length : Int) := Int.emod_nonneg _ (by omega)
  have m1 : (c + 1) % (ns.length : Int) < ns.length := Int.emod_lt_of_pos _ (by omega)
  have hx : ns[((c + 1) % (ns.length : Int)).toNat]? = some (ns[((c + 1) % (ns.length : Int)).toNat]'(by omega)) := List.getElem?_eq_getElem _
  generalize ns[((c + 1) % (ns.length : Int)).toNat]'(by omega) = x at hx
  generalize he : (c + 1) % (ns.length : Int) = i at *
  have hbb : ∀ {o : HO}, upd H a o b = some (.lst (ns.map V.int)) := fun {o} => by rw [upd_ne (Ne.symm ne)]; exact hb
  refine ⟨.ref b, rfl, .int i, rfl, b, _, i, .int x, rfl, rfl, .of hbb, atI_nat m0 (by rw [List.getElem?_map, hx]; rfl), ?_⟩
  refine ⟨.int x, rfl, x, 1000000000000000000, rfl, rfl, _, rfl, ?_⟩
  have mm : ∀ z : Int, 0 ≤ z % lim ∧ z % lim < lim := fun z => ⟨Int.emod_nonneg _ (by omega), Int.emod_lt_of_pos _ h1⟩
  by_cases hc : (1000000000000000000 : Int) ≤ x
  · rw [decide_eq_true hc]
    dsimp only
    rw [if_pos rfl]
    refine ⟨.int x, rfl, .int lim, rfl, x, lim, rfl, rfl, ⟨h1, h2⟩, ?_⟩
    refine ⟨.ref b, rfl, .int i, rfl, b, _, i, i.toNat, rfl, rfl, hbb, ?_, ?_⟩
    · unfold ixN
      rw [if_pos m0, if_pos (by rw [List.length_map]; exact m1)]
    · refine ⟨.int x, rfl, .int lim, rfl, x, lim, rfl, rfl, h1, ?_⟩
      rw [← List.map_set]
      refine hq _ _ _ (mm _).1 (mm _).2 ?_ (List.length_set ..)
      intro q
      have := congrArg List.length q
      rw [List.length_set] at this
      exact absurd this (by simp; exact hn)
  · rw [decide_eq_false hc]
    dsimp only
    rw [if_neg (by decide)]
    have hp : ∀ z : Int, 0 ≤ z % 4294967291 ∧ z % 4294967291 < 4294967291 := fun z => by omega
    refine ⟨.int x, rfl, .ref a, rfl, a, _, 1, .int (c + 1), rfl, rfl, .of upd_same, rfl, 104729, c + 1, rfl, rfl, .inl ⟨by omega, by omega⟩, ?_⟩
    refine ⟨x, _, rfl, rfl, _, 4294967291, rfl, rfl, by omega, ?_⟩
    dsimp only
    generalize hz : (x + 104729 * (c + 1)) % 4294967291 = z
    obtain ⟨z0, z1⟩ := hp (x + 104729 * (c + 1))
    rw [hz] at z0 z1
    refine ⟨.int z, rfl, z, 5, rfl, rfl, ⟨by omega, by omega, by omega⟩, _, 4294967279, rfl, rfl, by omega, ?_⟩
    dsimp only
    generalize z ^ (5 : Int).toNat % 4294967279 = y
    refine ⟨.int y, rfl, y, 64, rfl, rfl, ⟨by omega, by omega⟩, _, 69621, rfl, rfl, .inr ⟨by omega, by omega⟩, .int y, rfl, _, y, rfl, rfl, _, 4294967231, rfl, rfl, by omega, _, 8, rfl, rfl, ⟨by omega, by omega⟩, .int lim, rfl, _, lim, rfl, rfl, h1, ?_⟩
    have := hq ((y / 64 * 69621 + y) % 4294967231 / 8 % lim) (c + 1) ns (mm _).1 (mm _).2 hn rfl
    have e : upd (upd H a (.lst [.ref b, .int (c + 1)])) b (.lst (ns.map V.int)) = upd H a (.lst [.ref b, .int (c + 1)]) := by
      funext q
      by_cases e : q = b
      · subst e
        rw [upd_same, upd_ne (Ne.symm ne)]
        exact hb.symm
      · rw [upd_ne e]
    rw [e] at this
    exact this
end RT
end
section
set_option Elab.async false
set_option linter.all false
set_option maxRecDepth 100000
set_option maxHeartbeats 2000000
namespace RT
open PySem PySem.Spec PyProof.Rows L2
/-! ### the two defs of draws keep their promise -/
def Wd.zput (M : Wd) (p : Addr) (o : HO) : Wd := ⟨M.G, upd M.Z p o, upd M.H p o⟩
theorem zput_ok {M : Wd} (ok : M.Ok) {p : Addr} {o : HO} (g : M.G p = none) : (M.zput p o).Ok := by
  refine ⟨fun b x e => ?_, fun b x e => ?_, fun b x e => ?_⟩
  · show upd M.H p o b = some x
    rw [upd_ne (ne_of_none (show M.G b = some x from e) g)]
    exact ok.g _ _ e
  · by_cases hb : b = p
    · subst hb
      have e' : upd M.Z b o b = some x := e
      rw [upd_same] at e'
      show upd M.H b o b = some x
      rw [upd_same]
      exact e'
    · have e' : upd M.Z p o b = some x := e
      rw [upd_ne hb] at e'
      show upd M.H p o b = some x
      rw [upd_ne hb]
      exact ok.z _ _ e'
  · show upd M.Z p o b = none
    rw [upd_ne (ne_of_none (show M.G b = some x from e) g)]
    exact ok.d _ _ e
/-- a new object that an invariant keeps -/
theorem ext_znew {M : Wd} (ok : M.Ok) {p : Addr} {o : HO} (h : M.H p = none) : Ext M (M.zput p o) := by
  refine ⟨zput_ok ok (ok.free h).1, Same.refl _, fun b e => ?_, fun b x e z => ?_⟩
  · by_cases hb : b = p
    · rw [hb]
      exact h
    · have e' : upd M.H p o b = none := e
      rw [upd_ne hb] at e'
      exact e'
  · have hb := ne_of_none e h
    refine ⟨?_, rfl, ?_⟩
    · show upd M.H p o b = some x
      rw [upd_ne hb]
      exact e
    · show upd M.Z p o b = none
      rw [upd_ne hb]
      exact z
/-- such an object written -/
theorem ext_zset {M : Wd} (ok : M.Ok) {p : Addr} {o o0 : HO} (h : M.Z p = some o0) : Ext M (M.zput p o) := by
  have g : M.G p = none := by
    cases q : M.G p with
    | none => rfl
    | some u =>
      rw [ok.d _ _ q] at h
      cases h
  refine ⟨zput_ok ok g, Same.refl _, fun b e => ?_, fun b x e z => ?_⟩
  · by_cases hb : b = p
    · subst hb
      have e' : upd M.H b o b = none := e
      rw [upd_same] at e'
      cases e'
    · have e' : upd M.H p o b = none := e
      rw [upd_ne hb] at e'
      exact e'
  · have hb : b ≠ p := fun q => by
      rw [q, h] at z
      cases z
    refine ⟨?_, rfl, ?_⟩
    · show upd M.H p o b = some x
      rw [upd_ne hb]
      exact e
    · show upd M.Z p o b = none
      rw [upd_ne hb]
      exact z
theorem sh_ints0 (ns : List Int) : SeqAt.shaped (.list (ns.map PyData.int)) = true := by
  have h : ∀ ms : List Int, PyData.canLayAll0 (ms.map PyData.int) = true ∧ PyData.depthAll (ms.map PyData.int) = 0 := by
    intro ms
    induction ms with
    | nil => simp [PyData.canLayAll0, PyData.depthAll]
    | cons m ms ih => simp [PyData.canLayAll0, PyData.depthAll, PyData.canLay0, PyData.depth, ih]
  obtain ⟨h1, h2⟩ := h ns
  simp [SeqAt.shaped, PyData.canLay0, PyData.depth, h1, h2]
section
variable {P : Program} {w : World} {K : PySem.W.Frag} {mg : Str → Option Value} {base : Heap} {C : EK → Addr} {x qual : Str} {params : Arguments} {body : List Stmt} {scope : Scope} {f : Addr} {fd : FuncData} {k : Nat}
theorem draw_ok {N ps : List Str} (hN : N.length = 6) (hps : ps.length = 2) (F : FunD K x qual params body scope [] [] f fd) (S : FnScope N ps scope)
    (hb : ∀ (cdv : Value) (A : Around) (outer : List Env) (s : Shared) (H : Hp) (E : XK), Room k (A.deeper (envOfC qual scope s.heap.objs.size f cdv)) → PSs (cxOf (L2.CX P w) P w K mg base N qual scope f cdv A outer s H E) body (drawT K)) :
    FnOk P w K mg base (L2.CX P w) (k + 1) f fd ps (SpD (VD K C) spd_draw) := by
  refine F.ok S (fun vs H Q E h => ?_) (fun cdv A outer s H vs Q E hr h => ⟨_, hb cdv A outer s H E hr, ?_⟩)
  · obtain ⟨M, θ, ds, Nn, Nx, _, _, _, r, ⟨a, lim, rfl, _⟩, _⟩ := h
    rw [Paired.length r, hps]
    rfl
  · obtain ⟨M, θ, ds, Nn, Nx, rfl, ok, j, r, ⟨a, lim, rfl, rfl, l1, l2, hn⟩, h1, _⟩ := h
    obtain ⟨b, c, ns, ne, za, zb, nn, nl⟩ := j
    cases r with
    | cons r1 r =>
      cases r with
      | cons r2 r =>
        cases r
        cases (show _ = V.ref a from r1)
        cases (show Dr M.G _ (.int lim) from r2)
        have est : L2.start N [V.ref a, V.int lim] = [some (some (V.ref a)), some (some (V.int lim)), none, none, none, none].map (fun x => x.getD none) := by
          unfold L2.start
          rw [hN]
          rfl
        have est2 : L2.start N [V.ref a, V.int lim] = [some (.ref a), some (.int lim), none, none, none, none] := est
        rw [est2]
        refine draw_sem (ok.z _ _ za) (ok.z _ _ zb) ne nn l1 l2 fun n c' ns' n0 n1 nn' nl' => ?_
        have e1 := ext_zset ok (o := .lst [.ref b, .int c']) za
        have zb1 : (M.zput a (.lst [.ref b, .int c'])).Z b = some (.lst (ns.map V.int)) := by
          show upd M.Z a _ b = _
          rw [upd_ne (Ne.symm ne)]
          exact zb
        have e2 := ext_zset e1.ok (o := .lst (ns'.map V.int)) zb1
        refine h1 (.py (.int n)) (.on a) _ _ (e1.trans e2) ⟨b, c', ns', ne, ?_, upd_same, nn', by omega⟩ (Dr.int _) (hn n n0 n1)
        show upd (upd M.Z a _) b _ a = _
        rw [upd_ne ne, upd_same]
theorem start_ok {N ps : List Str} (hN : N.length = 1) (hps : ps.length = 1) (F : FunD K x qual params body scope [] [] f fd) (S : FnScope N ps scope)
    (hb : ∀ (cdv : Value) (A : Around) (outer : List Env) (s : Shared) (H : Hp) (E : XK), Room k (A.deeper (envOfC qual scope s.heap.objs.size f cdv)) →
      PSs (cxOf (L2.CX P w) P w K mg base N qual scope f cdv A outer s H E) body (startT K (rNeD K) (fun xs H Q => ∃ p ys, xs = [.ref p] ∧ (SqL K H p ys ∨ SqT K H p ys) ∧ ∀ l, H l = none → Q (.ref l) (upd H l (.lst ys))))) :
    FnOk P w K mg base (L2.CX P w) (k + 1) f fd ps (SpD (VD K C) spd_start) := by
  refine F.ok S (fun vs H Q E h => ?_) (fun cdv A outer s H vs Q E hr h => ⟨_, hb cdv A outer s H E hr, ?_⟩)
  · obtain ⟨M, θ, ds, Nn, Nx, _, _, _, r, ⟨a, rfl, _⟩, _⟩ := h
    rw [Paired.length r, hps]
    rfl
  · obtain ⟨M, θ, ds, Nn, Nx, rfl, ok, j, r, ⟨sc, rfl, rfl, hn⟩, h1, _⟩ := h
    obtain ⟨z0, ns, nl, hs⟩ := j
    cases r with
    | cons r1 r =>
      cases r
      cases (show _ = V.ref sc from r1)
      have est : L2.start N [V.ref sc] = [some (.ref sc)] := by
        unfold L2.start
        rw [hN]
        rfl
      rw [est]
      have fin : ∀ (M1 : Wd) (l : Addr) (ms : List Int), Ext M M1 → (∀ b, M1.Z b = none) → M1.H l = none → ms ≠ [] → ms.length ≤ 63 → ∀ a, (upd M1.H l (.lst (ms.map V.int))) a = none → Q (.ref a) (upd (upd M1.H l (.lst (ms.map V.int))) a (.lst [.ref l, .int 0])) := by
        intro M1 l ms e1 zz hl mn ml a ha
        have e2 := ext_znew e1.ok (o := .lst (ms.map V.int)) hl
        have e3 := ext_znew e2.ok (o := .lst [.ref l, .int 0]) ha
        have hal : a ≠ l := fun q => by
          rw [q, upd_same] at ha
          cases ha
        refine h1 (.rf a) (.on a) _ _ (e1.trans (e2.trans e3)) ⟨l, 0, ms, hal, upd_same, ?_, mn, ml⟩ rfl (hn a)
        show upd (upd M1.Z l _) a _ l = _
        rw [upd_ne (Ne.symm hal), upd_same]
      show startT K _ _ _ _ _
      refine ⟨.ref sc, rfl, Nat.zero_le _, fun p hp => ?_⟩
      have e1 : Ext M (M.put p (.lst [])) := ext_put (.refl ok) (ok.free hp).1 (ok.free hp).2 hp
      have hs' : SqL K (upd M.H p (.lst [])) sc (ns.map V.int) := SqL.mono' e1.ok.g hs
      refine ⟨.list (ns.map .int), .list [], .lst hs' ?_, .lst (.of upd_same) .nil, ?_, ?_, ?_⟩
      · have : ∀ ms : List Int, DpAll K (upd M.H p (.lst [])) (ms.map V.int) (ms.map PyData.int) := by
          intro ms
          induction ms with
          | nil => exact .nil
          | cons m ms ih => exact .cons (.int m) ih
        exact this ns
      · exact sh_ints0 ns
      · exact sh_ints0 []
      · refine ⟨_, rfl, ?_⟩
        cases ns with
        | nil =>
          have e0 : (!PyData.eqv (.list (([] : List Int).map .int)) (.list [])) = false := by simp [PyData.eqv, PyData.eqvAll]
          rw [e0]
          refine ⟨by decide, fun l hl => ⟨(show 2 ≤ sizeLine by decide), fun a ha => ?_⟩⟩
          exact fin (M.put p (.lst [])) l [0] e1 z0 hl (by simp) (by simp) a ha
        | cons m ms =>
          have e0 : (!PyData.eqv (.list ((m :: ms).map .int)) (.list [])) = true := by simp [PyData.eqv, PyData.eqvAll]
          rw [e0]
          refine ⟨.ref sc, rfl, sc, _, rfl, .inl hs', fun l hl => ⟨(show 2 ≤ sizeLine by decide), fun a ha => ?_⟩⟩
          exact fin (M.put p (.lst [])) l (m :: ms) e1 z0 hl (by simp) nl a ha
end
end RT
end
section
set_option Elab.async false
set_option linter.all false
set_option maxRecDepth 100000
set_option maxHeartbeats 2000000
namespace RT
open PySem PySem.Spec PyProof.Rows L2
/-! ### data -/
abbrev Itm := Int × Int × Int
abbrev itD (q : Itm) : PyData := .tuple [.int q.1, .int q.2.1, .int q.2.2]
theorem itD_inj {p q : Itm} (h : itD p = itD q) : p = q := by
  obtain ⟨a, b, c⟩ := p
  obtain ⟨a', b', c'⟩ := q
  simp [itD] at h
  simp [h]
@[simp] theorem itD_iff {p q : Itm} : itD p = itD q ↔ p = q := ⟨itD_inj, fun h => by rw [h]⟩
@[simp] theorem map_int_inj {xs ys : List Int} : xs.map PyData.int = ys.map PyData.int ↔ xs = ys := List.map_inj_right fun x y h => by cases h; rfl
@[simp] theorem map_str_inj {xs ys : List Str} : xs.map PyData.str = ys.map PyData.str ↔ xs = ys := List.map_inj_right fun x y h => by cases h; rfl
@[simp] theorem map_bool_inj {xs ys : List Bool} : xs.map PyData.bool = ys.map PyData.bool ↔ xs = ys := List.map_inj_right fun x y h => by cases h; rfl
@[simp] theorem map_itD_inj {xs ys : List Itm} : xs.map itD = ys.map itD ↔ xs = ys := List.map_inj_right fun x y h => itD_inj h
@[simp] theorem intsOf_map' (ns : List Int) : intsOf (ns.map PyData.int) = some ns := intsOf_map _
@[simp] theorem blsOf_map' (ns : List Bool) : blsOf (ns.map PyData.bool) = some ns := blsOf_map _
@[simp] theorem strsOf_map' (ns : List Str) : strsOf (ns.map PyData.str) = some ns := strsOf_map _
/-! ### == -/
@[simp] theorem eqv_int (a b : Int) : PyData.eqv (.int a) (.int b) = decide (a = b) := by simp [PyData.eqv]; rfl
@[simp] theorem eqv_bool (a b : Bool) : PyData.eqv (.bool a) (.bool b) = decide (a = b) := by simp [PyData.eqv]; rfl
@[simp] theorem eqv_str (a b : Str) : PyData.eqv (.str a) (.str b) = decide (a = b) := by simp [PyData.eqv]; rfl
theorem eqvAll_map {α : Type} [DecidableEq α] (f : α → PyData) (h : ∀ a b, PyData.eqv (f a) (f b) = decide (a = b)) : ∀ xs ys : List α, PyData.eqvAll (xs.map f) (ys.map f) = decide (xs = ys)
  | [], [] => by simp [PyData.eqvAll]
  | [], _ :: _ => by simp [PyData.eqvAll]
  | _ :: _, [] => by simp [PyData.eqvAll]
  | x :: xs, y :: ys => by simp [PyData.eqvAll, h, eqvAll_map f h xs ys]
theorem eqv_list (xs ys : List PyData) : PyData.eqv (.list xs) (.list ys) = PyData.eqvAll xs ys := by simp [PyData.eqv]
theorem eqv_tuple (xs ys : List PyData) : PyData.eqv (.tuple xs) (.tuple ys) = PyData.eqvAll xs ys := by simp [PyData.eqv]
@[simp] theorem eqv_itD (p q : Itm) : PyData.eqv (itD p) (itD q) = decide (p = q) := by
  obtain ⟨a, b, c⟩ := p
  obtain ⟨a', b', c'⟩ := q
  simp [itD, eqv_tuple, PyData.eqvAll, Bool.decide_and]
@[simp] theorem eqv_ints (xs ys : List Int) : PyData.eqv (.list (xs.map .int)) (.list (ys.map .int)) = decide (xs = ys) := by rw [eqv_list, eqvAll_map _ eqv_int]
@[simp] theorem eqv_strs (xs ys : List Str) : PyData.eqv (.list (xs.map .str)) (.list (ys.map .str)) = decide (xs = ys) := by rw [eqv_list, eqvAll_map _ eqv_str]
@[simp] theorem eqv_its (xs ys : List Itm) : PyData.eqv (.list (xs.map itD)) (.list (ys.map itD)) = decide (xs = ys) := by rw [eqv_list, eqvAll_map _ eqv_itD]
@[simp] theorem eqv_nil (xs : List PyData) : PyData.eqv (.list xs) (.list []) = xs.isEmpty := by cases xs <;> simp [PyData.eqv, PyData.eqvAll]
/-! ### what == may be asked -/
def Shp (k : Nat) (d : PyData) : Prop := d.canLay0 = true ∧ d.depth ≤ k
theorem Shp.sh {k : Nat} {d : PyData} (h : Shp k d) (hk : k ≤ 64 := by decide) : SeqAt.shaped d = true := by
  unfold SeqAt.shaped
  rw [h.1, decide_eq_true (Nat.le_trans h.2 hk)]
  rfl
theorem Shp.mono {k j : Nat} {d : PyData} (h : Shp k d) (hk : k ≤ j) : Shp j d := ⟨h.1, Nat.le_trans h.2 hk⟩
theorem lay_all {k : Nat} : ∀ {ds : List PyData}, (∀ d ∈ ds, Shp k d) → PyData.canLayAll0 ds = true ∧ PyData.depthAll ds ≤ k
  | [], _ => by simp [PyData.canLayAll0, PyData.depthAll]
  | d :: ds, h => by
    have h1 := h d List.mem_cons_self
    have h2 := lay_all fun x hx => h x (List.mem_cons_of_mem _ hx)
    simp only [PyData.canLayAll0, PyData.depthAll, h1.1, h2.1]
    exact ⟨rfl, Nat.max_le.mpr ⟨h1.2, h2.2⟩⟩
theorem shp_list {k : Nat} {ds : List PyData} (h : ∀ d ∈ ds, Shp k d) : Shp (k + 1) (.list ds) := by
  obtain ⟨h1, h2⟩ := lay_all h
  exact ⟨by simp only [PyData.canLay0]; exact h1, by simp only [PyData.depth]; omega⟩
theorem shp_tuple {k : Nat} {ds : List PyData} (h : ∀ d ∈ ds, Shp k d) : Shp (k + 1) (.tuple ds) := by
  obtain ⟨h1, h2⟩ := lay_all h
  exact ⟨by simp only [PyData.canLay0]; exact h1, by simp only [PyData.depth]; omega⟩
theorem shp_map {k : Nat} {α : Type} {f : α → PyData} {xs : List α} (h : ∀ x ∈ xs, Shp k (f x)) : Shp (k + 1) (.list (xs.map f)) := shp_list fun d hd => by
  obtain ⟨x, hx, rfl⟩ := List.mem_map.mp hd
  exact h x hx
theorem shp_int (i : Int) : Shp 0 (.int i) := ⟨by simp [PyData.canLay0], by simp [PyData.depth]⟩
theorem shp_bool (i : Bool) : Shp 0 (.bool i) := ⟨by simp [PyData.canLay0], by simp [PyData.depth]⟩
theorem shp_none : Shp 0 .none := ⟨by simp [PyData.canLay0], by simp [PyData.depth]⟩
theorem shp_str {x : Str} (h : PyData.strOk x = true) : Shp 0 (.str x) := ⟨by simp only [PyData.canLay0]; exact h, by simp [PyData.depth]⟩
theorem shp_itD (q : Itm) : Shp 1 (itD q) := shp_tuple fun d hd => by
  simp at hd
  rcases hd with rfl | rfl | rfl <;> exact shp_int _
@[simp] theorem sh_int (i : Int) : SeqAt.shaped (.int i) = true := (shp_int i).sh
@[simp] theorem sh_bool (i : Bool) : SeqAt.shaped (.bool i) = true := (shp_bool i).sh
@[simp] theorem sh_none : SeqAt.shaped .none = true := shp_none.sh
@[simp] theorem sh_itD (q : Itm) : SeqAt.shaped (itD q) = true := (shp_itD q).sh
@[simp] theorem sh_nil : SeqAt.shaped (.list []) = true := (shp_list (k := 0) fun _ h => by cases h).sh
@[simp] theorem sh_ints (xs : List Int) : SeqAt.shaped (.list (xs.map .int)) = true := (shp_map fun x _ => shp_int x).sh
@[simp] theorem sh_its (xs : List Itm) : SeqAt.shaped (.list (xs.map itD)) = true := (shp_map fun x _ => shp_itD x).sh
theorem sh_str {x : Str} (h : PyData.strOk x = true) : SeqAt.shaped (.str x) = true := (shp_str h).sh
/-! ### comprehensions, loops -/
theorem lcGo_fm {Θ α : Type} {g : WG} {tt : WT Θ} {wl : WE Θ} {ρ : DS} {N : D → Θ → Prop} {θ : Θ} (d : α → D) (p : α → Bool) (f : α → PyData) : ∀ (xs : List α) (acc : List PyData),
    (∀ x ∈ xs, ∀ (T : D → Θ → Prop) (F : Θ → Prop), (if p x = true then T (.py (f x)) θ else F θ) → g (d x) ρ (fun ρ1 => tt ρ1 θ (fun b θ1 => if b = true then wl ρ1 θ1 T (fun _ _ => False) else F θ1) (fun _ _ => False))) →
    acc.length + xs.length ≤ sizeLine → N (.py (.list (acc ++ (xs.filter p).map f))) θ → lcGo g tt wl ρ N (xs.map d) acc θ
  | [], acc, _, _, n => by simpa [lcGo] using n
  | x :: xs, acc, h, hl, n => by
    have h0 := h x List.mem_cons_self
    have hs := fun y hy => h y (List.mem_cons_of_mem x hy)
    simp only [List.length_cons] at hl
    refine h0 (fun y θ2 => ∃ z, y = .py z ∧ acc.length < sizeLine ∧ lcGo g tt wl ρ N (xs.map d) (acc ++ [z]) θ2) (fun θ1 => lcGo g tt wl ρ N (xs.map d) acc θ1) ?_
    cases hp : p x with
    | true =>
      rw [if_pos rfl]
      refine ⟨_, rfl, by omega, ?_⟩
      refine lcGo_fm d p f xs _ hs (by simp; omega) ?_
      rw [List.filter_cons_of_pos hp] at n
      simpa using n
    | false =>
      rw [if_neg (by decide)]
      refine lcGo_fm d p f xs _ hs (by omega) ?_
      rw [List.filter_cons_of_neg (by simp [hp])] at n
      exact n
theorem lcGo_map {Θ α : Type} {g : WG} {wl : WE Θ} {ρ : DS} {N : D → Θ → Prop} {θ : Θ} (d : α → D) (f : α → PyData) (xs : List α)
    (h : ∀ x ∈ xs, ∀ T : D → Θ → Prop, T (.py (f x)) θ → g (d x) ρ (fun ρ1 => wl ρ1 θ T (fun _ _ => False))) (hl : xs.length ≤ sizeLine) (n : N (.py (.list (xs.map f))) θ) : lcGo g wYes wl ρ N (xs.map d) [] θ := by
  refine lcGo_fm d (fun _ => true) f xs [] (fun x hx T F q => ?_) (by simpa using hl) ?_
  · rw [if_pos rfl] at q
    simp only [wYes, if_true]
    exact h x hx T q
  · have e : xs.filter (fun _ => true) = xs := List.filter_eq_self.mpr fun _ _ => rfl
    rw [e]
    simpa using n
theorem lcGo_inv {Θ α : Type} {g : WG} {wl : WE Θ} {ρ : DS} {N : D → Θ → Prop} (d : α → D) (I : List α → List PyData → Θ → Prop) (h : ∀ x xs acc θ, I (x :: xs) acc θ → acc.length < sizeLine ∧ ∀ T : D → Θ → Prop, (∀ z θ', I xs (acc ++ [z]) θ' → T (.py z) θ') → g (d x) ρ (fun ρ1 => wl ρ1 θ T (fun _ _ => False)))
    (hn : ∀ acc θ, I [] acc θ → N (.py (.list acc)) θ) : ∀ (xs : List α) (acc : List PyData) (θ : Θ), I xs acc θ → lcGo g wYes wl ρ N (xs.map d) acc θ
  | [], acc, θ, i => hn acc θ i
  | x :: xs, acc, θ, i => by
    obtain ⟨hl, hh⟩ := h x xs acc θ i
    show g (d x) ρ _
    simp only [wYes, if_true]
    exact hh _ fun z θ' q => ⟨z, rfl, hl, lcGo_inv d I h hn xs _ θ' q⟩
theorem forGo_inv {Θ α : Type} {g : WG} {body : WS Θ} {N : EN Θ} (d : α → D) (I : List α → DS → Θ → Prop) (h : ∀ x xs ρ θ, I (x :: xs) ρ θ → ∀ R : DS → Θ → Prop, (∀ ρ' θ', I xs ρ' θ' → R ρ' θ') → g (d x) ρ fun ρ1 => body { N with nx := R, ct := R, bk := N.nx } ρ1 θ)
    (hn : ∀ ρ θ, I [] ρ θ → N.nx ρ θ) : ∀ (xs : List α) (ρ : DS) (θ : Θ), I xs ρ θ → forGo g body N (xs.map d) ρ θ
  | [], ρ, θ, i => hn ρ θ i
  | x :: xs, ρ, θ, i => h x xs ρ θ i _ fun ρ' θ' q => forGo_inv d I h hn xs ρ' θ' q
/-! ### equations -/
theorem e_add_i (i j : Int) : fAdd (.py (.int i)) (.py (.int j)) = some (.py (.int (i + j))) := rfl
theorem e_add_s (s t : Str) : fAdd (.py (.str s)) (.py (.str t)) = some (.py (.str (s ++ t))) := rfl
theorem e_add_l (s t : List PyData) : fAdd (.py (.list s)) (.py (.list t)) = some (.py (.list (s ++ t))) := rfl
theorem e_add_t (s t : List PyData) : fAdd (.py (.tuple s)) (.py (.tuple t)) = some (.py (.tuple (s ++ t))) := rfl
theorem e_kadd_i (i j : Int) : kAdd (.py (.int i)) (.py (.int j)) = True := rfl
theorem e_kadd_s (s t : Str) : kAdd (.py (.str s)) (.py (.str t)) = (s.length + t.length ≤ sizeLine) := rfl
theorem e_kadd_l (s t : List PyData) : kAdd (.py (.list s)) (.py (.list t)) = (s.length + t.length ≤ sizeLine) := rfl
theorem e_kadd_t (s t : List PyData) : kAdd (.py (.tuple s)) (.py (.tuple t)) = (s.length + t.length ≤ sizeLine) := rfl
theorem e_sub (i j : Int) : fSub (.py (.int i)) (.py (.int j)) = some (.py (.int (i - j))) := rfl
theorem e_kt (x y : D) : kTrue x y = True := rfl
theorem e_mul_i (i j : Int) : fMul (.py (.int i)) (.py (.int j)) = some (.py (.int (i * j))) := rfl
theorem e_mul_l (s : List PyData) (j : Int) : fMul (.py (.list s)) (.py (.int j)) = some (.py (.list (List.replicate j.toNat s).flatten)) := rfl
theorem e_kmul_i (i j : Int) : kMul (.py (.int i)) (.py (.int j)) = CMul i j := rfl
theorem e_kmul_l (s : List PyData) (j : Int) : kMul (.py (.list s)) (.py (.int j)) = (-(2 ^ 63) ≤ j ∧ j < 2 ^ 63 ∧ s.length * j.toNat ≤ sizeLine) := rfl
theorem e_div (i j : Int) : fDiv (.py (.int i)) (.py (.int j)) = some (.py (.int (i.fdiv j))) := rfl
theorem e_kdiv (i j : Int) : kDiv (.py (.int i)) (.py (.int j)) = CDivN i j := rfl
theorem e_mod (i j : Int) : fMod (.py (.int i)) (.py (.int j)) = some (.py (.int (i % j))) := rfl
theorem e_kmod (i j : Int) : kMod (.py (.int i)) (.py (.int j)) = (0 < j) := rfl
theorem e_cmp (p : Int → Int → Bool) (i j : Int) : fCmp p (.py (.int i)) (.py (.int j)) = some (.py (.bool (p i j))) := rfl
theorem e_eq (d e : PyData) : fEq (.py d) (.py e) = some (.py (.bool (PyData.eqv d e))) := rfl
theorem e_ne (d e : PyData) : fNe (.py d) (.py e) = some (.py (.bool (!PyData.eqv d e))) := rfl
theorem e_keq (d e : PyData) : kEq (.py d) (.py e) = (SeqAt.shaped d = true ∧ SeqAt.shaped e = true) := rfl
theorem e_is_n (d : D) : fIs d (.py .none) = some (.py (.bool (isNon d))) := rfl
theorem e_is_b (i j : Bool) : fIs (.py (.bool i)) (.py (.bool j)) = some (.py (.bool (decide (i = j)))) := rfl
theorem e_isn_n (d : D) : fIsN d (.py .none) = some (.py (.bool (!isNon d))) := rfl
theorem e_isn_b (i j : Bool) : fIsN (.py (.bool i)) (.py (.bool j)) = some (.py (.bool (!decide (i = j)))) := rfl
theorem e_non_n : isNon (.py .none) = true := rfl
theorem e_non_l (ds : List PyData) : isNon (.py (.list ds)) = false := rfl
theorem e_non_t (ds : List PyData) : isNon (.py (.tuple ds)) = false := rfl
theorem e_non_i (i : Int) : isNon (.py (.int i)) = false := rfl
theorem e_non_s (z : Str) : isNon (.py (.str z)) = false := rfl
theorem e_non_b (z : Bool) : isNon (.py (.bool z)) = false := rfl
theorem e_non_x (k : EK) : isNon (.ex k) = false := rfl
theorem e_in_l (d : PyData) (ds : List PyData) : fIn (.py d) (.py (.list ds)) = some (.py (.bool (ds.any fun z => PyData.eqv z d))) := rfl
theorem e_in_t (d : PyData) (ds : List PyData) : fIn (.py d) (.py (.tuple ds)) = some (.py (.bool (ds.any fun z => PyData.eqv z d))) := rfl
theorem e_ni_l (d : PyData) (ds : List PyData) : fNi (.py d) (.py (.list ds)) = some (.py (.bool (!ds.any fun z => PyData.eqv z d))) := rfl
theorem e_ni_t (d : PyData) (ds : List PyData) : fNi (.py d) (.py (.tuple ds)) = some (.py (.bool (!ds.any fun z => PyData.eqv z d))) := rfl
theorem e_kin_l (d : PyData) (ds : List PyData) : kIn (.py d) (.py (.list ds)) = (SeqAt.shaped d = true ∧ SeqAt.shaped (.list ds) = true) := rfl
theorem e_kin_t (d : PyData) (ds : List PyData) : kIn (.py d) (.py (.tuple ds)) = ((∃ i, d = .int i) ∧ ∃ ns : List Int, ds = ns.map .int) := rfl
theorem e_kin_s (d : PyData) (z : Str) : kIn (.py d) (.py (.str z)) = True := rfl
theorem e_ix_l (ds : List PyData) (i : Int) : fIx (.py (.list ds)) (.py (.int i)) = (atI ds i).map .py := rfl
theorem e_ix_t (ds : List PyData) (i : Int) : fIx (.py (.tuple ds)) (.py (.int i)) = (atI ds i).map .py := rfl
theorem e_ix_s (z : Str) (i : Int) : fIx (.py (.str z)) (.py (.int i)) = (atI z.cps.toList i).map fun c => .py (.str ⟨#[c]⟩) := rfl
theorem e_kix_l (ds : List PyData) (y : D) : kIx (.py (.list ds)) y = True := rfl
theorem e_kix_t (ds : List PyData) (y : D) : kIx (.py (.tuple ds)) y = True := rfl
theorem e_kix_s (z : Str) (y : D) : kIx (.py (.str z)) y = (z.length ≤ sizeLine) := rfl
theorem e_sl_l (ds : List PyData) (lo hi : Option Int) : fSl (.py (.list ds)) lo hi = some (.py (.list (cutD ds lo hi))) := rfl
theorem e_sl_t (ds : List PyData) (lo hi : Option Int) : fSl (.py (.tuple ds)) lo hi = some (.py (.tuple (cutD ds lo hi))) := rfl
theorem e_sl_s (z : Str) (lo hi : Option Int) : fSl (.py (.str z)) lo hi = some (.py (.str (cutS z lo hi))) := rfl
theorem e_len_l (ds : List PyData) : fLen [.py (.list ds)] = some (.py (.int ds.length)) := rfl
theorem e_len_t (ds : List PyData) : fLen [.py (.tuple ds)] = some (.py (.int ds.length)) := rfl
theorem e_len_s (z : Str) : fLen [.py (.str z)] = some (.py (.int z.length)) := rfl
theorem e_klen_l (ds : List PyData) : kLen [.py (.list ds)] = True := rfl
theorem e_klen_t (ds : List PyData) : kLen [.py (.tuple ds)] = True := rfl
theorem e_klen_s (z : Str) : kLen [.py (.str z)] = (z.length ≤ sizeLine) := rfl
theorem e_kany (ds : List D) : kAny ds = True := rfl
theorem e_list_l (ds : List PyData) : fList [.py (.list ds)] = some (.py (.list ds)) := rfl
theorem e_list_t (ds : List PyData) : fList [.py (.tuple ds)] = some (.py (.list ds)) := rfl
theorem e_tup_l (ds : List PyData) : fTuple [.py (.list ds)] = some (.py (.tuple ds)) := rfl
theorem e_tup_t (ds : List PyData) : fTuple [.py (.tuple ds)] = some (.py (.tuple ds)) := rfl
theorem e_sum (ds : List PyData) : fSum [.py (.list ds)] = (intsOf ds).map fun ns => .py (.int ns.sum) := rfl
theorem e_max (ds : List PyData) : fMax [.py (.list ds)] = (intsOf ds).map fun ns => .py (.int (maxI ns)) := rfl
theorem e_max2 (i j : Int) : fMax [.py (.int i), .py (.int j)] = some (.py (.int (if j > i then j else i))) := rfl
theorem e_min (ds : List PyData) : fMin [.py (.list ds)] = (intsOf ds).map fun ns => .py (.int (minI ns)) := rfl
theorem e_kne (ds : List PyData) : kNe [.py (.list ds)] = (ds ≠ []) := rfl
theorem e_kne2 (i j : Int) : kNe [.py (.int i), .py (.int j)] = True := rfl
theorem e_all (ds : List PyData) : fAll [.py (.list ds)] = (blsOf ds).map fun bs => .py (.bool (bs.all id)) := rfl
theorem e_str (i : Int) : fStr [.py (.int i)] = some (.py (.str (toString i))) := rfl
theorem e_kstr (i : Int) : kStr [.py (.int i)] = (i.natAbs.log2 < 1920) := rfl
theorem e_int (z : Str) : fInt [.py (.str z)] = (PySem.intText? z).map fun n => .py (.int n) := rfl
theorem e_kint (z : Str) : kInt [.py (.str z)] = (z.length ≤ 640) := rfl
theorem e_split (a b : Str) : fSplit (.py (.str a)) (.py (.str b)) = some (.py (.list ((Txt.split a b).map .str))) := rfl
theorem e_ksplit (a b : Str) : kSplit (.py (.str a)) (.py (.str b)) = ((b.length == 0) = false ∧ a.length + 2 ≤ sizeLine) := rfl
theorem e_part (a b : Str) : fPart (.py (.str a)) (.py (.str b)) = some (.py (.tuple [.str (Txt.partition a b).1, .str (Txt.partition a b).2.1, .str (Txt.partition a b).2.2])) := rfl
theorem e_kpart (a b : Str) : kPart (.py (.str a)) (.py (.str b)) = ((b.length == 0) = false ∧ a.length ≤ sizeLine) := rfl
theorem e_join (a : Str) (ds : List PyData) : fJoin (.py (.str a)) (.py (.list ds)) = (strsOf ds).map fun ys => .py (.str (Txt.join a ys)) := rfl
theorem e_kjoin (a : Str) (ds : List PyData) : kJoin (.py (.str a)) (.py (.list ds)) = ∀ ys, strsOf ds = some ys → (ys.map (·.length)).sum + ys.length * a.length ≤ 16777216 := rfl
theorem e_st0 : startD 0 [] = [] := rfl
theorem e_st1 (n : Nat) : startD (n + 1) [] = .no :: startD n [] := by simp [startD, List.replicate_succ]
theorem e_st2 (n : Nat) (d : D) (ds : List D) : startD (n + 1) (d :: ds) = .is d :: startD n ds := by simp [startD]
theorem e_pys0 : pys [] = some [] := rfl
theorem e_pys1 (d : PyData) (r : List D) : pys (.py d :: r) = (pys r).map (d :: ·) := rfl
theorem e_sa0 (ρ : DS) : setAll [] [] ρ = some ρ := rfl
theorem e_sa1 (i : Nat) (is : List Nat) (d : PyData) (ds : List PyData) (ρ : DS) : setAll (i :: is) (d :: ds) ρ = setAll is ds (ρ.set i (.is (.py d))) := rfl
theorem e_wipe0 (ρ : DS) : wipeD ρ [] = ρ := rfl
theorem e_wipe1 (ρ : DS) (v : Nat) (vs : List Nat) : wipeD ρ (v :: vs) = (wipeD ρ vs).set v .no := rfl
theorem e_js0 {Θ : Type} (acc : Str) (ρ : DS) (θ : Θ) (N : Str → Θ → Prop) (Nx : EK → Θ → Prop) : wJs [] acc ρ θ N Nx = N acc θ := rfl
theorem e_js1 {Θ : Type} (w : WE Θ) (ws : List (WE Θ)) (acc : Str) (ρ : DS) (θ : Θ) (N : Str → Θ → Prop) (Nx : EK → Θ → Prop) : wJs (w :: ws) acc ρ θ N Nx = w ρ θ (fun d θ' => ∃ y, d = .py (.str y) ∧ (acc ++ y).length ≤ sizeLine ∧ wJs ws (acc ++ y) ρ θ' N Nx) Nx := rfl
theorem e_ty_i (i : Int) : tyName (.int i) = "int" := rfl
theorem e_ty_b (i : Bool) : tyName (.bool i) = "bool" := rfl
theorem e_ty_n : tyName .none = "NoneType" := rfl
theorem e_ty_s (i : Str) : tyName (.str i) = "str" := rfl
theorem e_ty_l (i : List PyData) : tyName (.list i) = "list" := rfl
theorem e_ty_t (i : List PyData) : tyName (.tuple i) = "tuple" := rfl
theorem e_isi_ii : isiB "int" "int" = true := by decide
theorem e_isi_ib : isiB "int" "bool" = true := by decide
theorem e_isi_in : isiB "int" "NoneType" = false := by decide
theorem e_isi_is : isiB "int" "str" = false := by decide
theorem e_isi_il : isiB "int" "list" = false := by decide
theorem e_isi_it : isiB "int" "tuple" = false := by decide
theorem e_isi_bi : isiB "bool" "int" = false := by decide
theorem e_isi_bb : isiB "bool" "bool" = true := by decide
theorem e_isi_bn : isiB "bool" "NoneType" = false := by decide
theorem e_isi_bs : isiB "bool" "str" = false := by decide
theorem e_isi_bl : isiB "bool" "list" = false := by decide
theorem e_isi_bt : isiB "bool" "tuple" = false := by decide
theorem e_isi_li : isiB "list" "int" = false := by decide
theorem e_isi_lb : isiB "list" "bool" = false := by decide
theorem e_isi_ln : isiB "list" "NoneType" = false := by decide
theorem e_isi_ls : isiB "list" "str" = false := by decide
theorem e_isi_ll : isiB "list" "list" = true := by decide
theorem e_isi_lt : isiB "list" "tuple" = false := by decide
theorem e_isi_ti : isiB "tuple" "int" = false := by decide
theorem e_isi_tb : isiB "tuple" "bool" = false := by decide
theorem e_isi_tn : isiB "tuple" "NoneType" = false := by decide
theorem e_isi_ts : isiB "tuple" "str" = false := by decide
theorem e_isi_tl : isiB "tuple" "list" = false := by decide
theorem e_isi_tt : isiB "tuple" "tuple" = true := by decide
theorem e_isi_si : isiB "str" "int" = false := by decide
theorem e_isi_sb : isiB "str" "bool" = false := by decide
theorem e_isi_sn : isiB "str" "NoneType" = false := by decide
theorem e_isi_ss : isiB "str" "str" = true := by decide
theorem e_isi_sl : isiB "str" "list" = false := by decide
theorem e_isi_st : isiB "str" "tuple" = false := by decide
theorem e_up (s : Spec0) (ds : List D) (θ : Unit) (N : D → Unit → Prop) (Nx : EK → Unit → Prop) : s.up ds θ N Nx = s ds (fun d => N d ()) (fun k => Nx k ()) := rfl
/-! ### sets of numbers -/
def subs {α : Type} : List α → List (List α)
  | [] => [[]]
  | x :: xs => subs xs ++ (subs xs).map (x :: ·)
theorem filter_subs {α : Type} (p : α → Bool) : ∀ xs : List α, xs.filter p ∈ subs xs
  | [] => by simp [subs]
  | x :: xs => by
    unfold subs
    cases h : p x with
    | true =>
      rw [List.filter_cons_of_pos h]
      exact List.mem_append_right _ (List.mem_map.mpr ⟨_, filter_subs p xs, rfl⟩)
    | false =>
      rw [List.filter_cons_of_neg (by simp [h])]
      exact List.mem_append_left _ (filter_subs p xs)
theorem sub_subs {α : Type} : ∀ {ys xs : List α}, ys.Sublist xs → ys ∈ subs xs
  | _, _, .slnil => by simp [subs]
  | _, _, .cons x h => by
    unfold subs
    exact List.mem_append_left _ (sub_subs h)
  | _, _, .cons₂ x h => by
    unfold subs
    exact List.mem_append_right _ (List.mem_map.mpr ⟨_, sub_subs h, rfl⟩)
theorem subs_sub {α : Type} : ∀ {xs ys : List α}, ys ∈ subs xs → ys.Sublist xs
  | [], ys, h => by
    simp [subs] at h
    rw [h]
    exact .slnil
  | x :: xs, ys, h => by
    unfold subs at h
    rcases List.mem_append.mp h with h | h
    · exact .cons x (subs_sub h)
    · obtain ⟨zs, hz, rfl⟩ := List.mem_map.mp h
      exact .cons₂ x (subs_sub hz)
abbrev ten : List Int := [1, 2, 3, 4, 5, 6, 7, 8, 9, 10]
end RT
end
section
set_option Elab.async false
set_option linter.all false
set_option maxRecDepth 100000
set_option maxHeartbeats 2000000
namespace RT
open PySem PySem.Spec PyProof.Rows L2
theorem le_line {n : Nat} (h : n ≤ 1000000) : n ≤ sizeLine := Nat.le_trans h (by decide)
theorem le_line' {n : Nat} (h : n ≤ 16777216) : n ≤ sizeLine := Nat.le_trans h (by decide)
def Sz : PyData → Prop
  | .list ds => ds.length ≤ 1000000
  | .tuple ds => ds.length ≤ 1000000
  | .str z => z.length ≤ 1000000
  | _ => True
/-- what may be given to the checks -/
def Fine (d : PyData) : Prop := SeqAt.shaped d = true ∧ Sz d
/-! ### errors.py -/
def isIntD (lo hi : Int) : PyData → Bool
  | .int i => decide (lo ≤ i) && decide (i ≤ hi)
  | _ => false
def sp_is_int : Spec0 := fun ds N _ => ∃ d lo hi, ds = [.py d, .py (.int lo), .py (.int hi)] ∧ N (.py (.bool (isIntD lo hi d)))
def w_is_int : WS Unit :=
  wRet (wAnd (wIsi "int" (wVar 0)) (wAnd (wNot (wIsi "bool" (wVar 0))) (wChain fLe kTrue fLe kTrue (wVar 1) (wVar 0) (wVar 2))))
theorem law_is_int : ∀ ds θ N Nx, sp_is_int.up ds θ N Nx → w_is_int (bodyEN N Nx) (startD 3 ds) θ := by
  rintro ds θ N Nx ⟨d, lo, hi, rfl, n⟩
  cases d <;> simp only [w_is_int, wVar, wOwn, wC, wOp, wT, wChain, wAndT, wOrT, wNotT, wAnd, wOr, wNot, wIf, wNil, wCons, wDisp, wCall, wCall0, wNoPart, wPart, wSl, wRevL, wBlt, wItL, wItT, wItS, wRg1, wRg2, wEnum, wZip, wLR, wLR2, wYes, wM1, wFmt, wJoined, wIsi, wNeg, wNewD, wOwnCat, wPar2, wNext, wSeq, wNever, wSet, wNew, wAug, wExtend, wAppend, wPut, wFrz, wRet, wRetOwn, wRetN, wDrop, wIfS, wgName, wgTup, wUnp, wRaise, bodyEN, wLc, wFor, wSortSet, e_add_i, e_add_s, e_add_l, e_add_t, e_kadd_i, e_kadd_s, e_kadd_l, e_kadd_t, e_sub, e_kt, e_mul_i, e_mul_l, e_kmul_i, e_kmul_l, e_div, e_kdiv, e_mod, e_kmod, e_cmp, e_eq, e_ne, e_keq, e_is_n, e_is_b, e_isn_n, e_isn_b, e_non_n, e_non_l, e_non_t, e_non_i, e_non_s, e_non_b, e_non_x, e_in_l, e_in_t, e_ni_l, e_ni_t, e_kin_l, e_kin_t, e_kin_s, e_ix_l, e_ix_t, e_ix_s, e_kix_l, e_kix_t, e_kix_s, e_sl_l, e_sl_t, e_sl_s, e_len_l, e_len_t, e_len_s, e_klen_l, e_klen_t, e_klen_s, e_kany, e_list_l, e_list_t, e_tup_l, e_tup_t, e_sum, e_max, e_max2, e_min, e_kne, e_kne2, e_all, e_str, e_kstr, e_int, e_kint, e_split, e_ksplit, e_part, e_kpart, e_join, e_kjoin, e_pys0, e_pys1, e_sa0, e_sa1, e_wipe0, e_wipe1, e_js0, e_js1, e_ty_i, e_ty_b, e_ty_n, e_ty_s, e_ty_l, e_ty_t, e_isi_ii, e_isi_ib, e_isi_in, e_isi_is, e_isi_il, e_isi_it, e_isi_bi, e_isi_bb, e_isi_bn, e_isi_bs, e_isi_bl, e_isi_bt, e_isi_li, e_isi_lb, e_isi_ln, e_isi_ls, e_isi_ll, e_isi_lt, e_isi_ti, e_isi_tb, e_isi_tn, e_isi_ts, e_isi_tl, e_isi_tt, e_isi_si, e_isi_sb, e_isi_sn, e_isi_ss, e_isi_sl, e_isi_st, e_up, e_st0, e_st1, e_st2, exists_eq_left, exists_eq_left', exists_eq_right, exists_eq_right', exists_eq', exists_eq, true_and, and_true, and_self, false_and, and_false, exists_and_left, exists_and_right, exists_const, Option.some.injEq, Option.map_some, Option.map_none, Sl.is.injEq, Sl.own.injEq, D.py.injEq, D.ex.injEq, D.rf.injEq, PyData.int.injEq, PyData.bool.injEq, PyData.str.injEq, PyData.list.injEq, PyData.tuple.injEq, List.cons.injEq, if_true, if_false, eq_self, Bool.false_eq_true, Bool.true_eq_false, Bool.not_true, Bool.not_false, Bool.not_not, List.getElem?_cons_zero, List.getElem?_cons_succ, List.set_cons_zero, List.set_cons_succ, List.length_cons, List.length_nil, List.cons_append, List.nil_append, reduceCtorEq, List.replicate_zero, List.replicate_succ, Nat.reduceAdd, Nat.reduceSub, decide_true, decide_false, intsOf_map', blsOf_map', strsOf_map', map_int_inj, map_str_inj, map_bool_inj, map_itD_inj, itD_iff, sh_int, sh_bool, sh_none, sh_itD, sh_nil, sh_ints, sh_its, eqv_int, eqv_bool, eqv_str, eqv_itD, eqv_ints, eqv_strs, eqv_its, eqv_nil, Nat.zero_le, and_assoc, e_ty_i, e_ty_b] <;> try exact n
  · rename_i i
    unfold isIntD at n
    cases h : decide (lo ≤ i) <;> simp only [h, wVar, wOwn, wC, wOp, wT, wChain, wAndT, wOrT, wNotT, wAnd, wOr, wNot, wIf, wNil, wCons, wDisp, wCall, wCall0, wNoPart, wPart, wSl, wRevL, wBlt, wItL, wItT, wItS, wRg1, wRg2, wEnum, wZip, wLR, wLR2, wYes, wM1, wFmt, wJoined, wIsi, wNeg, wNewD, wOwnCat, wPar2, wNext, wSeq, wNever, wSet, wNew, wAug, wExtend, wAppend, wPut, wFrz, wRet, wRetOwn, wRetN, wDrop, wIfS, wgName, wgTup, wUnp, wRaise, bodyEN, wLc, wFor, wSortSet, e_add_i, e_add_s, e_add_l, e_add_t, e_kadd_i, e_kadd_s, e_kadd_l, e_kadd_t, e_sub, e_kt, e_mul_i, e_mul_l, e_kmul_i, e_kmul_l, e_div, e_kdiv, e_mod, e_kmod, e_cmp, e_eq, e_ne, e_keq, e_is_n, e_is_b, e_isn_n, e_isn_b, e_non_n, e_non_l, e_non_t, e_non_i, e_non_s, e_non_b, e_non_x, e_in_l, e_in_t, e_ni_l, e_ni_t, e_kin_l, e_kin_t, e_kin_s, e_ix_l, e_ix_t, e_ix_s, e_kix_l, e_kix_t, e_kix_s, e_sl_l, e_sl_t, e_sl_s, e_len_l, e_len_t, e_len_s, e_klen_l, e_klen_t, e_klen_s, e_kany, e_list_l, e_list_t, e_tup_l, e_tup_t, e_sum, e_max, e_max2, e_min, e_kne, e_kne2, e_all, e_str, e_kstr, e_int, e_kint, e_split, e_ksplit, e_part, e_kpart, e_join, e_kjoin, e_pys0, e_pys1, e_sa0, e_sa1, e_wipe0, e_wipe1, e_js0, e_js1, e_ty_i, e_ty_b, e_ty_n, e_ty_s, e_ty_l, e_ty_t, e_isi_ii, e_isi_ib, e_isi_in, e_isi_is, e_isi_il, e_isi_it, e_isi_bi, e_isi_bb, e_isi_bn, e_isi_bs, e_isi_bl, e_isi_bt, e_isi_li, e_isi_lb, e_isi_ln, e_isi_ls, e_isi_ll, e_isi_lt, e_isi_ti, e_isi_tb, e_isi_tn, e_isi_ts, e_isi_tl, e_isi_tt, e_isi_si, e_isi_sb, e_isi_sn, e_isi_ss, e_isi_sl, e_isi_st, e_up, e_st0, e_st1, e_st2, exists_eq_left, exists_eq_left', exists_eq_right, exists_eq_right', exists_eq', exists_eq, true_and, and_true, and_self, false_and, and_false, exists_and_left, exists_and_right, exists_const, Option.some.injEq, Option.map_some, Option.map_none, Sl.is.injEq, Sl.own.injEq, D.py.injEq, D.ex.injEq, D.rf.injEq, PyData.int.injEq, PyData.bool.injEq, PyData.str.injEq, PyData.list.injEq, PyData.tuple.injEq, List.cons.injEq, if_true, if_false, eq_self, Bool.false_eq_true, Bool.true_eq_false, Bool.not_true, Bool.not_false, Bool.not_not, List.getElem?_cons_zero, List.getElem?_cons_succ, List.set_cons_zero, List.set_cons_succ, List.length_cons, List.length_nil, List.cons_append, List.nil_append, reduceCtorEq, List.replicate_zero, List.replicate_succ, Nat.reduceAdd, Nat.reduceSub, decide_true, decide_false, intsOf_map', blsOf_map', strsOf_map', map_int_inj, map_str_inj, map_bool_inj, map_itD_inj, itD_iff, sh_int, sh_bool, sh_none, sh_itD, sh_nil, sh_ints, sh_its, eqv_int, eqv_bool, eqv_str, eqv_itD, eqv_ints, eqv_strs, eqv_its, eqv_nil, Nat.zero_le, and_assoc, Bool.true_and, Bool.false_and] at n ⊢ <;> exact n
def ascI : List Int → Bool
  | a :: b :: r => decide (a < b) && ascI (b :: r)
  | _ => true
def setI (ns : List Int) : Bool := !ns.isEmpty && ns.all (fun n => decide (1 ≤ n) && decide (n ≤ 10)) && ascI ns
def isSetD : PyData → Bool
  | .list ds => match intsOf ds with
    | some ns => setI ns
    | none => false
  | _ => false
theorem all_int (lo hi : Int) : ∀ ds : List PyData, ds.all (isIntD lo hi) = match intsOf ds with
    | some ns => ns.all (fun n => decide (lo ≤ n) && decide (n ≤ hi))
    | none => false
  | [] => rfl
  | d :: ds => by
    have ih := all_int lo hi ds
    cases d with
    | int i =>
      rw [List.all_cons, ih]
      show _ = match (intsOf ds).map (i :: ·) with
        | some ns => ns.all (fun n => decide (lo ≤ n) && decide (n ≤ hi))
        | none => false
      cases intsOf ds with
      | none => simp
      | some ns => simp [isIntD]
    | _ => simp [isIntD, intsOf]
def prD (p : Int × Int) : PyData := .tuple [.int p.1, .int p.2]
theorem zipD_ints : ∀ xs ys : List Int, zipD (xs.map .int) (ys.map .int) = (xs.zip ys).map prD
  | [], _ => by simp [zipD]
  | _ :: _, [] => by simp [zipD]
  | x :: xs, y :: ys => by simp [zipD, zipD_ints xs ys, prD]
theorem asc_zip : ∀ ns : List Int, ((ns.zip (ns.drop 1)).map fun p => decide (p.1 < p.2)).all id = ascI ns
  | [] => rfl
  | [_] => rfl
  | a :: b :: r => by
    have := asc_zip (b :: r)
    simp only [List.drop_succ_cons, List.drop_zero] at this ⊢
    simp only [List.zip_cons_cons, List.map_cons, List.all_cons, this, ascI, id]
theorem cutD_tail {α : Type} (xs : List α) : cutD xs (some 1) none = xs.drop 1 := by
  cases xs with
  | nil => simp [cutD]
  | cons x xs => simp [cutD, HT.sIx]
def sp_is_set : Spec0 := fun ds N _ => ∃ d, ds = [.py d] ∧ Fine d ∧ N (.py (.bool (isSetD d)))
def w_is_set : WS Unit :=
  wSeq (wIfS (wOrT (wNotT (wT (wIsi "list" (wVar 0)))) (wOrT (wT (wOp fEq kEq (wVar 0) (wDisp .list (wNil)))) (wNotT (wT (wBlt fAll kAny (wCons (wLc (wItL (wVar 0)) (wgName 3) (wYes) (wCall0 sp_is_int (wCons (wVar 3) (wCons (wC (.int 1)) (wCons (wC (.int 10)) (wNil))))) [3]) (wNil))))))) (wRet (wC (.bool false))) (wNext)) (wRet (wBlt fAll kAny (wCons (wLc (wZip (wCons (wVar 0) (wCons (wSl (wVar 0) (wPart (wC (.int 1))) (wNoPart)) (wNil)))) (wgTup [1, 2]) (wYes) (wOp fLt kTrue (wVar 1) (wVar 2)) [1, 2]) (wNil))))
theorem law_is_set : ∀ ds θ N Nx, sp_is_set.up ds θ N Nx → w_is_set (bodyEN N Nx) (startD 4 ds) θ := by
  rintro ds θ N Nx ⟨d, rfl, ⟨sh, sz⟩, n⟩
  cases d with
  | list ds =>
    have sz : ds.length ≤ 1000000 := sz
    simp only [w_is_set, wVar, wOwn, wC, wOp, wT, wChain, wAndT, wOrT, wNotT, wAnd, wOr, wNot, wIf, wNil, wCons, wDisp, wCall, wCall0, wNoPart, wPart, wSl, wRevL, wBlt, wItL, wItT, wItS, wRg1, wRg2, wEnum, wZip, wLR, wLR2, wYes, wM1, wFmt, wJoined, wIsi, wNeg, wNewD, wOwnCat, wPar2, wNext, wSeq, wNever, wSet, wNew, wAug, wExtend, wAppend, wPut, wFrz, wRet, wRetOwn, wRetN, wDrop, wIfS, wgName, wgTup, wUnp, wRaise, bodyEN, wLc, wFor, wSortSet, e_add_i, e_add_s, e_add_l, e_add_t, e_kadd_i, e_kadd_s, e_kadd_l, e_kadd_t, e_sub, e_kt, e_mul_i, e_mul_l, e_kmul_i, e_kmul_l, e_div, e_kdiv, e_mod, e_kmod, e_cmp, e_eq, e_ne, e_keq, e_is_n, e_is_b, e_isn_n, e_isn_b, e_non_n, e_non_l, e_non_t, e_non_i, e_non_s, e_non_b, e_non_x, e_in_l, e_in_t, e_ni_l, e_ni_t, e_kin_l, e_kin_t, e_kin_s, e_ix_l, e_ix_t, e_ix_s, e_kix_l, e_kix_t, e_kix_s, e_sl_l, e_sl_t, e_sl_s, e_len_l, e_len_t, e_len_s, e_klen_l, e_klen_t, e_klen_s, e_kany, e_list_l, e_list_t, e_tup_l, e_tup_t, e_sum, e_max, e_max2, e_min, e_kne, e_kne2, e_all, e_str, e_kstr, e_int, e_kint, e_split, e_ksplit, e_part, e_kpart, e_join, e_kjoin, e_pys0, e_pys1, e_sa0, e_sa1, e_wipe0, e_wipe1, e_js0, e_js1, e_ty_i, e_ty_b, e_ty_n, e_ty_s, e_ty_l, e_ty_t, e_isi_ii, e_isi_ib, e_isi_in, e_isi_is, e_isi_il, e_isi_it, e_isi_bi, e_isi_bb, e_isi_bn, e_isi_bs, e_isi_bl, e_isi_bt, e_isi_li, e_isi_lb, e_isi_ln, e_isi_ls, e_isi_ll, e_isi_lt, e_isi_ti, e_isi_tb, e_isi_tn, e_isi_ts, e_isi_tl, e_isi_tt, e_isi_si, e_isi_sb, e_isi_sn, e_isi_ss, e_isi_sl, e_isi_st, e_up, e_st0, e_st1, e_st2, exists_eq_left, exists_eq_left', exists_eq_right, exists_eq_right', exists_eq', exists_eq, true_and, and_true, and_self, false_and, and_false, exists_and_left, exists_and_right, exists_const, Option.some.injEq, Option.map_some, Option.map_none, Sl.is.injEq, Sl.own.injEq, D.py.injEq, D.ex.injEq, D.rf.injEq, PyData.int.injEq, PyData.bool.injEq, PyData.str.injEq, PyData.list.injEq, PyData.tuple.injEq, List.cons.injEq, if_true, if_false, eq_self, Bool.false_eq_true, Bool.true_eq_false, Bool.not_true, Bool.not_false, Bool.not_not, List.getElem?_cons_zero, List.getElem?_cons_succ, List.set_cons_zero, List.set_cons_succ, List.length_cons, List.length_nil, List.cons_append, List.nil_append, reduceCtorEq, List.replicate_zero, List.replicate_succ, Nat.reduceAdd, Nat.reduceSub, decide_true, decide_false, intsOf_map', blsOf_map', strsOf_map', map_int_inj, map_str_inj, map_bool_inj, map_itD_inj, itD_iff, sh_int, sh_bool, sh_none, sh_itD, sh_nil, sh_ints, sh_its, eqv_int, eqv_bool, eqv_str, eqv_itD, eqv_ints, eqv_strs, eqv_its, eqv_nil, Nat.zero_le, and_assoc, sh]
    cases ds with
    | nil =>
      simp only [List.isEmpty_nil, wVar, wOwn, wC, wOp, wT, wChain, wAndT, wOrT, wNotT, wAnd, wOr, wNot, wIf, wNil, wCons, wDisp, wCall, wCall0, wNoPart, wPart, wSl, wRevL, wBlt, wItL, wItT, wItS, wRg1, wRg2, wEnum, wZip, wLR, wLR2, wYes, wM1, wFmt, wJoined, wIsi, wNeg, wNewD, wOwnCat, wPar2, wNext, wSeq, wNever, wSet, wNew, wAug, wExtend, wAppend, wPut, wFrz, wRet, wRetOwn, wRetN, wDrop, wIfS, wgName, wgTup, wUnp, wRaise, bodyEN, wLc, wFor, wSortSet, e_add_i, e_add_s, e_add_l, e_add_t, e_kadd_i, e_kadd_s, e_kadd_l, e_kadd_t, e_sub, e_kt, e_mul_i, e_mul_l, e_kmul_i, e_kmul_l, e_div, e_kdiv, e_mod, e_kmod, e_cmp, e_eq, e_ne, e_keq, e_is_n, e_is_b, e_isn_n, e_isn_b, e_non_n, e_non_l, e_non_t, e_non_i, e_non_s, e_non_b, e_non_x, e_in_l, e_in_t, e_ni_l, e_ni_t, e_kin_l, e_kin_t, e_kin_s, e_ix_l, e_ix_t, e_ix_s, e_kix_l, e_kix_t, e_kix_s, e_sl_l, e_sl_t, e_sl_s, e_len_l, e_len_t, e_len_s, e_klen_l, e_klen_t, e_klen_s, e_kany, e_list_l, e_list_t, e_tup_l, e_tup_t, e_sum, e_max, e_max2, e_min, e_kne, e_kne2, e_all, e_str, e_kstr, e_int, e_kint, e_split, e_ksplit, e_part, e_kpart, e_join, e_kjoin, e_pys0, e_pys1, e_sa0, e_sa1, e_wipe0, e_wipe1, e_js0, e_js1, e_ty_i, e_ty_b, e_ty_n, e_ty_s, e_ty_l, e_ty_t, e_isi_ii, e_isi_ib, e_isi_in, e_isi_is, e_isi_il, e_isi_it, e_isi_bi, e_isi_bb, e_isi_bn, e_isi_bs, e_isi_bl, e_isi_bt, e_isi_li, e_isi_lb, e_isi_ln, e_isi_ls, e_isi_ll, e_isi_lt, e_isi_ti, e_isi_tb, e_isi_tn, e_isi_ts, e_isi_tl, e_isi_tt, e_isi_si, e_isi_sb, e_isi_sn, e_isi_ss, e_isi_sl, e_isi_st, e_up, e_st0, e_st1, e_st2, exists_eq_left, exists_eq_left', exists_eq_right, exists_eq_right', exists_eq', exists_eq, true_and, and_true, and_self, false_and, and_false, exists_and_left, exists_and_right, exists_const, Option.some.injEq, Option.map_some, Option.map_none, Sl.is.injEq, Sl.own.injEq, D.py.injEq, D.ex.injEq, D.rf.injEq, PyData.int.injEq, PyData.bool.injEq, PyData.str.injEq, PyData.list.injEq, PyData.tuple.injEq, List.cons.injEq, if_true, if_false, eq_self, Bool.false_eq_true, Bool.true_eq_false, Bool.not_true, Bool.not_false, Bool.not_not, List.getElem?_cons_zero, List.getElem?_cons_succ, List.set_cons_zero, List.set_cons_succ, List.length_cons, List.length_nil, List.cons_append, List.nil_append, reduceCtorEq, List.replicate_zero, List.replicate_succ, Nat.reduceAdd, Nat.reduceSub, decide_true, decide_false, intsOf_map', blsOf_map', strsOf_map', map_int_inj, map_str_inj, map_bool_inj, map_itD_inj, itD_iff, sh_int, sh_bool, sh_none, sh_itD, sh_nil, sh_ints, sh_its, eqv_int, eqv_bool, eqv_str, eqv_itD, eqv_ints, eqv_strs, eqv_its, eqv_nil, Nat.zero_le, and_assoc]
      exact n
    | cons d0 ds =>
      simp only [List.isEmpty_cons, wVar, wOwn, wC, wOp, wT, wChain, wAndT, wOrT, wNotT, wAnd, wOr, wNot, wIf, wNil, wCons, wDisp, wCall, wCall0, wNoPart, wPart, wSl, wRevL, wBlt, wItL, wItT, wItS, wRg1, wRg2, wEnum, wZip, wLR, wLR2, wYes, wM1, wFmt, wJoined, wIsi, wNeg, wNewD, wOwnCat, wPar2, wNext, wSeq, wNever, wSet, wNew, wAug, wExtend, wAppend, wPut, wFrz, wRet, wRetOwn, wRetN, wDrop, wIfS, wgName, wgTup, wUnp, wRaise, bodyEN, wLc, wFor, wSortSet, e_add_i, e_add_s, e_add_l, e_add_t, e_kadd_i, e_kadd_s, e_kadd_l, e_kadd_t, e_sub, e_kt, e_mul_i, e_mul_l, e_kmul_i, e_kmul_l, e_div, e_kdiv, e_mod, e_kmod, e_cmp, e_eq, e_ne, e_keq, e_is_n, e_is_b, e_isn_n, e_isn_b, e_non_n, e_non_l, e_non_t, e_non_i, e_non_s, e_non_b, e_non_x, e_in_l, e_in_t, e_ni_l, e_ni_t, e_kin_l, e_kin_t, e_kin_s, e_ix_l, e_ix_t, e_ix_s, e_kix_l, e_kix_t, e_kix_s, e_sl_l, e_sl_t, e_sl_s, e_len_l, e_len_t, e_len_s, e_klen_l, e_klen_t, e_klen_s, e_kany, e_list_l, e_list_t, e_tup_l, e_tup_t, e_sum, e_max, e_max2, e_min, e_kne, e_kne2, e_all, e_str, e_kstr, e_int, e_kint, e_split, e_ksplit, e_part, e_kpart, e_join, e_kjoin, e_pys0, e_pys1, e_sa0, e_sa1, e_wipe0, e_wipe1, e_js0, e_js1, e_ty_i, e_ty_b, e_ty_n, e_ty_s, e_ty_l, e_ty_t, e_isi_ii, e_isi_ib, e_isi_in, e_isi_is, e_isi_il, e_isi_it, e_isi_bi, e_isi_bb, e_isi_bn, e_isi_bs, e_isi_bl, e_isi_bt, e_isi_li, e_isi_lb, e_isi_ln, e_isi_ls, e_isi_ll, e_isi_lt, e_isi_ti, e_isi_tb, e_isi_tn, e_isi_ts, e_isi_tl, e_isi_tt, e_isi_si, e_isi_sb, e_isi_sn, e_isi_ss, e_isi_sl, e_isi_st, e_up, e_st0, e_st1, e_st2, exists_eq_left, exists_eq_left', exists_eq_right, exists_eq_right', exists_eq', exists_eq, true_and, and_true, and_self, false_and, and_false, exists_and_left, exists_and_right, exists_const, Option.some.injEq, Option.map_some, Option.map_none, Sl.is.injEq, Sl.own.injEq, D.py.injEq, D.ex.injEq, D.rf.injEq, PyData.int.injEq, PyData.bool.injEq, PyData.str.injEq, PyData.list.injEq, PyData.tuple.injEq, List.cons.injEq, if_true, if_false, eq_self, Bool.false_eq_true, Bool.true_eq_false, Bool.not_true, Bool.not_false, Bool.not_not, List.getElem?_cons_zero, List.getElem?_cons_succ, List.set_cons_zero, List.set_cons_succ, List.length_cons, List.length_nil, List.cons_append, List.nil_append, reduceCtorEq, List.replicate_zero, List.replicate_succ, Nat.reduceAdd, Nat.reduceSub, decide_true, decide_false, intsOf_map', blsOf_map', strsOf_map', map_int_inj, map_str_inj, map_bool_inj, map_itD_inj, itD_iff, sh_int, sh_bool, sh_none, sh_itD, sh_nil, sh_ints, sh_its, eqv_int, eqv_bool, eqv_str, eqv_itD, eqv_ints, eqv_strs, eqv_its, eqv_nil, Nat.zero_le, and_assoc]
      refine lcGo_map D.py (fun d => .bool (isIntD 1 10 d)) _ (fun x hx T q => ?_) (le_line sz) ?_
      · simp only [sp_is_int, wVar, wOwn, wC, wOp, wT, wChain, wAndT, wOrT, wNotT, wAnd, wOr, wNot, wIf, wNil, wCons, wDisp, wCall, wCall0, wNoPart, wPart, wSl, wRevL, wBlt, wItL, wItT, wItS, wRg1, wRg2, wEnum, wZip, wLR, wLR2, wYes, wM1, wFmt, wJoined, wIsi, wNeg, wNewD, wOwnCat, wPar2, wNext, wSeq, wNever, wSet, wNew, wAug, wExtend, wAppend, wPut, wFrz, wRet, wRetOwn, wRetN, wDrop, wIfS, wgName, wgTup, wUnp, wRaise, bodyEN, wLc, wFor, wSortSet, e_add_i, e_add_s, e_add_l, e_add_t, e_kadd_i, e_kadd_s, e_kadd_l, e_kadd_t, e_sub, e_kt, e_mul_i, e_mul_l, e_kmul_i, e_kmul_l, e_div, e_kdiv, e_mod, e_kmod, e_cmp, e_eq, e_ne, e_keq, e_is_n, e_is_b, e_isn_n, e_isn_b, e_non_n, e_non_l, e_non_t, e_non_i, e_non_s, e_non_b, e_non_x, e_in_l, e_in_t, e_ni_l, e_ni_t, e_kin_l, e_kin_t, e_kin_s, e_ix_l, e_ix_t, e_ix_s, e_kix_l, e_kix_t, e_kix_s, e_sl_l, e_sl_t, e_sl_s, e_len_l, e_len_t, e_len_s, e_klen_l, e_klen_t, e_klen_s, e_kany, e_list_l, e_list_t, e_tup_l, e_tup_t, e_sum, e_max, e_max2, e_min, e_kne, e_kne2, e_all, e_str, e_kstr, e_int, e_kint, e_split, e_ksplit, e_part, e_kpart, e_join, e_kjoin, e_pys0, e_pys1, e_sa0, e_sa1, e_wipe0, e_wipe1, e_js0, e_js1, e_ty_i, e_ty_b, e_ty_n, e_ty_s, e_ty_l, e_ty_t, e_isi_ii, e_isi_ib, e_isi_in, e_isi_is, e_isi_il, e_isi_it, e_isi_bi, e_isi_bb, e_isi_bn, e_isi_bs, e_isi_bl, e_isi_bt, e_isi_li, e_isi_lb, e_isi_ln, e_isi_ls, e_isi_ll, e_isi_lt, e_isi_ti, e_isi_tb, e_isi_tn, e_isi_ts, e_isi_tl, e_isi_tt, e_isi_si, e_isi_sb, e_isi_sn, e_isi_ss, e_isi_sl, e_isi_st, e_up, e_st0, e_st1, e_st2, exists_eq_left, exists_eq_left', exists_eq_right, exists_eq_right', exists_eq', exists_eq, true_and, and_true, and_self, false_and, and_false, exists_and_left, exists_and_right, exists_const, Option.some.injEq, Option.map_some, Option.map_none, Sl.is.injEq, Sl.own.injEq, D.py.injEq, D.ex.injEq, D.rf.injEq, PyData.int.injEq, PyData.bool.injEq, PyData.str.injEq, PyData.list.injEq, PyData.tuple.injEq, List.cons.injEq, if_true, if_false, eq_self, Bool.false_eq_true, Bool.true_eq_false, Bool.not_true, Bool.not_false, Bool.not_not, List.getElem?_cons_zero, List.getElem?_cons_succ, List.set_cons_zero, List.set_cons_succ, List.length_cons, List.length_nil, List.cons_append, List.nil_append, reduceCtorEq, List.replicate_zero, List.replicate_succ, Nat.reduceAdd, Nat.reduceSub, decide_true, decide_false, intsOf_map', blsOf_map', strsOf_map', map_int_inj, map_str_inj, map_bool_inj, map_itD_inj, itD_iff, sh_int, sh_bool, sh_none, sh_itD, sh_nil, sh_ints, sh_its, eqv_int, eqv_bool, eqv_str, eqv_itD, eqv_ints, eqv_strs, eqv_its, eqv_nil, Nat.zero_le, and_assoc]
        exact q
      · have e : (d0 :: ds).map (fun d => PyData.bool (isIntD 1 10 d)) = ((d0 :: ds).map (isIntD 1 10)).map PyData.bool := by simp
        rw [e]
        simp only [wVar, wOwn, wC, wOp, wT, wChain, wAndT, wOrT, wNotT, wAnd, wOr, wNot, wIf, wNil, wCons, wDisp, wCall, wCall0, wNoPart, wPart, wSl, wRevL, wBlt, wItL, wItT, wItS, wRg1, wRg2, wEnum, wZip, wLR, wLR2, wYes, wM1, wFmt, wJoined, wIsi, wNeg, wNewD, wOwnCat, wPar2, wNext, wSeq, wNever, wSet, wNew, wAug, wExtend, wAppend, wPut, wFrz, wRet, wRetOwn, wRetN, wDrop, wIfS, wgName, wgTup, wUnp, wRaise, bodyEN, wLc, wFor, wSortSet, e_add_i, e_add_s, e_add_l, e_add_t, e_kadd_i, e_kadd_s, e_kadd_l, e_kadd_t, e_sub, e_kt, e_mul_i, e_mul_l, e_kmul_i, e_kmul_l, e_div, e_kdiv, e_mod, e_kmod, e_cmp, e_eq, e_ne, e_keq, e_is_n, e_is_b, e_isn_n, e_isn_b, e_non_n, e_non_l, e_non_t, e_non_i, e_non_s, e_non_b, e_non_x, e_in_l, e_in_t, e_ni_l, e_ni_t, e_kin_l, e_kin_t, e_kin_s, e_ix_l, e_ix_t, e_ix_s, e_kix_l, e_kix_t, e_kix_s, e_sl_l, e_sl_t, e_sl_s, e_len_l, e_len_t, e_len_s, e_klen_l, e_klen_t, e_klen_s, e_kany, e_list_l, e_list_t, e_tup_l, e_tup_t, e_sum, e_max, e_max2, e_min, e_kne, e_kne2, e_all, e_str, e_kstr, e_int, e_kint, e_split, e_ksplit, e_part, e_kpart, e_join, e_kjoin, e_pys0, e_pys1, e_sa0, e_sa1, e_wipe0, e_wipe1, e_js0, e_js1, e_ty_i, e_ty_b, e_ty_n, e_ty_s, e_ty_l, e_ty_t, e_isi_ii, e_isi_ib, e_isi_in, e_isi_is, e_isi_il, e_isi_it, e_isi_bi, e_isi_bb, e_isi_bn, e_isi_bs, e_isi_bl, e_isi_bt, e_isi_li, e_isi_lb, e_isi_ln, e_isi_ls, e_isi_ll, e_isi_lt, e_isi_ti, e_isi_tb, e_isi_tn, e_isi_ts, e_isi_tl, e_isi_tt, e_isi_si, e_isi_sb, e_isi_sn, e_isi_ss, e_isi_sl, e_isi_st, e_up, e_st0, e_st1, e_st2, exists_eq_left, exists_eq_left', exists_eq_right, exists_eq_right', exists_eq', exists_eq, true_and, and_true, and_self, false_and, and_false, exists_and_left, exists_and_right, exists_const, Option.some.injEq, Option.map_some, Option.map_none, Sl.is.injEq, Sl.own.injEq, D.py.injEq, D.ex.injEq, D.rf.injEq, PyData.int.injEq, PyData.bool.injEq, PyData.str.injEq, PyData.list.injEq, PyData.tuple.injEq, List.cons.injEq, if_true, if_false, eq_self, Bool.false_eq_true, Bool.true_eq_false, Bool.not_true, Bool.not_false, Bool.not_not, List.getElem?_cons_zero, List.getElem?_cons_succ, List.set_cons_zero, List.set_cons_succ, List.length_cons, List.length_nil, List.cons_append, List.nil_append, reduceCtorEq, List.replicate_zero, List.replicate_succ, Nat.reduceAdd, Nat.reduceSub, decide_true, decide_false, intsOf_map', blsOf_map', strsOf_map', map_int_inj, map_str_inj, map_bool_inj, map_itD_inj, itD_iff, sh_int, sh_bool, sh_none, sh_itD, sh_nil, sh_ints, sh_its, eqv_int, eqv_bool, eqv_str, eqv_itD, eqv_ints, eqv_strs, eqv_its, eqv_nil, Nat.zero_le, and_assoc, List.all_map, Function.comp_def, id]
        have ha := all_int 1 10 (d0 :: ds)
        cases hi : intsOf (d0 :: ds) with
        | none =>
          simp only [isSetD, hi] at n ha
          simp only [ha, wVar, wOwn, wC, wOp, wT, wChain, wAndT, wOrT, wNotT, wAnd, wOr, wNot, wIf, wNil, wCons, wDisp, wCall, wCall0, wNoPart, wPart, wSl, wRevL, wBlt, wItL, wItT, wItS, wRg1, wRg2, wEnum, wZip, wLR, wLR2, wYes, wM1, wFmt, wJoined, wIsi, wNeg, wNewD, wOwnCat, wPar2, wNext, wSeq, wNever, wSet, wNew, wAug, wExtend, wAppend, wPut, wFrz, wRet, wRetOwn, wRetN, wDrop, wIfS, wgName, wgTup, wUnp, wRaise, bodyEN, wLc, wFor, wSortSet, e_add_i, e_add_s, e_add_l, e_add_t, e_kadd_i, e_kadd_s, e_kadd_l, e_kadd_t, e_sub, e_kt, e_mul_i, e_mul_l, e_kmul_i, e_kmul_l, e_div, e_kdiv, e_mod, e_kmod, e_cmp, e_eq, e_ne, e_keq, e_is_n, e_is_b, e_isn_n, e_isn_b, e_non_n, e_non_l, e_non_t, e_non_i, e_non_s, e_non_b, e_non_x, e_in_l, e_in_t, e_ni_l, e_ni_t, e_kin_l, e_kin_t, e_kin_s, e_ix_l, e_ix_t, e_ix_s, e_kix_l, e_kix_t, e_kix_s, e_sl_l, e_sl_t, e_sl_s, e_len_l, e_len_t, e_len_s, e_klen_l, e_klen_t, e_klen_s, e_kany, e_list_l, e_list_t, e_tup_l, e_tup_t, e_sum, e_max, e_max2, e_min, e_kne, e_kne2, e_all, e_str, e_kstr, e_int, e_kint, e_split, e_ksplit, e_part, e_kpart, e_join, e_kjoin, e_pys0, e_pys1, e_sa0, e_sa1, e_wipe0, e_wipe1, e_js0, e_js1, e_ty_i, e_ty_b, e_ty_n, e_ty_s, e_ty_l, e_ty_t, e_isi_ii, e_isi_ib, e_isi_in, e_isi_is, e_isi_il, e_isi_it, e_isi_bi, e_isi_bb, e_isi_bn, e_isi_bs, e_isi_bl, e_isi_bt, e_isi_li, e_isi_lb, e_isi_ln, e_isi_ls, e_isi_ll, e_isi_lt, e_isi_ti, e_isi_tb, e_isi_tn, e_isi_ts, e_isi_tl, e_isi_tt, e_isi_si, e_isi_sb, e_isi_sn, e_isi_ss, e_isi_sl, e_isi_st, e_up, e_st0, e_st1, e_st2, exists_eq_left, exists_eq_left', exists_eq_right, exists_eq_right', exists_eq', exists_eq, true_and, and_true, and_self, false_and, and_false, exists_and_left, exists_and_right, exists_const, Option.some.injEq, Option.map_some, Option.map_none, Sl.is.injEq, Sl.own.injEq, D.py.injEq, D.ex.injEq, D.rf.injEq, PyData.int.injEq, PyData.bool.injEq, PyData.str.injEq, PyData.list.injEq, PyData.tuple.injEq, List.cons.injEq, if_true, if_false, eq_self, Bool.false_eq_true, Bool.true_eq_false, Bool.not_true, Bool.not_false, Bool.not_not, List.getElem?_cons_zero, List.getElem?_cons_succ, List.set_cons_zero, List.set_cons_succ, List.length_cons, List.length_nil, List.cons_append, List.nil_append, reduceCtorEq, List.replicate_zero, List.replicate_succ, Nat.reduceAdd, Nat.reduceSub, decide_true, decide_false, intsOf_map', blsOf_map', strsOf_map', map_int_inj, map_str_inj, map_bool_inj, map_itD_inj, itD_iff, sh_int, sh_bool, sh_none, sh_itD, sh_nil, sh_ints, sh_its, eqv_int, eqv_bool, eqv_str, eqv_itD, eqv_ints, eqv_strs, eqv_its, eqv_nil, Nat.zero_le, and_assoc]
          exact n
        | some ns =>
          simp only [isSetD, hi] at n ha
          rw [ha]
          have hd := intsOf_eq hi
          unfold setI at n
          have hne : ns.isEmpty = false := by
            cases ns with
            | nil => cases hd
            | cons _ _ => rfl
          rw [hne] at n
          cases hb : ns.all fun n => decide (1 ≤ n) && decide (n ≤ 10) with
          | false =>
            rw [hb] at n
            simp only [wVar, wOwn, wC, wOp, wT, wChain, wAndT, wOrT, wNotT, wAnd, wOr, wNot, wIf, wNil, wCons, wDisp, wCall, wCall0, wNoPart, wPart, wSl, wRevL, wBlt, wItL, wItT, wItS, wRg1, wRg2, wEnum, wZip, wLR, wLR2, wYes, wM1, wFmt, wJoined, wIsi, wNeg, wNewD, wOwnCat, wPar2, wNext, wSeq, wNever, wSet, wNew, wAug, wExtend, wAppend, wPut, wFrz, wRet, wRetOwn, wRetN, wDrop, wIfS, wgName, wgTup, wUnp, wRaise, bodyEN, wLc, wFor, wSortSet, e_add_i, e_add_s, e_add_l, e_add_t, e_kadd_i, e_kadd_s, e_kadd_l, e_kadd_t, e_sub, e_kt, e_mul_i, e_mul_l, e_kmul_i, e_kmul_l, e_div, e_kdiv, e_mod, e_kmod, e_cmp, e_eq, e_ne, e_keq, e_is_n, e_is_b, e_isn_n, e_isn_b, e_non_n, e_non_l, e_non_t, e_non_i, e_non_s, e_non_b, e_non_x, e_in_l, e_in_t, e_ni_l, e_ni_t, e_kin_l, e_kin_t, e_kin_s, e_ix_l, e_ix_t, e_ix_s, e_kix_l, e_kix_t, e_kix_s, e_sl_l, e_sl_t, e_sl_s, e_len_l, e_len_t, e_len_s, e_klen_l, e_klen_t, e_klen_s, e_kany, e_list_l, e_list_t, e_tup_l, e_tup_t, e_sum, e_max, e_max2, e_min, e_kne, e_kne2, e_all, e_str, e_kstr, e_int, e_kint, e_split, e_ksplit, e_part, e_kpart, e_join, e_kjoin, e_pys0, e_pys1, e_sa0, e_sa1, e_wipe0, e_wipe1, e_js0, e_js1, e_ty_i, e_ty_b, e_ty_n, e_ty_s, e_ty_l, e_ty_t, e_isi_ii, e_isi_ib, e_isi_in, e_isi_is, e_isi_il, e_isi_it, e_isi_bi, e_isi_bb, e_isi_bn, e_isi_bs, e_isi_bl, e_isi_bt, e_isi_li, e_isi_lb, e_isi_ln, e_isi_ls, e_isi_ll, e_isi_lt, e_isi_ti, e_isi_tb, e_isi_tn, e_isi_ts, e_isi_tl, e_isi_tt, e_isi_si, e_isi_sb, e_isi_sn, e_isi_ss, e_isi_sl, e_isi_st, e_up, e_st0, e_st1, e_st2, exists_eq_left, exists_eq_left', exists_eq_right, exists_eq_right', exists_eq', exists_eq, true_and, and_true, and_self, false_and, and_false, exists_and_left, exists_and_right, exists_const, Option.some.injEq, Option.map_some, Option.map_none, Sl.is.injEq, Sl.own.injEq, D.py.injEq, D.ex.injEq, D.rf.injEq, PyData.int.injEq, PyData.bool.injEq, PyData.str.injEq, PyData.list.injEq, PyData.tuple.injEq, List.cons.injEq, if_true, if_false, eq_self, Bool.false_eq_true, Bool.true_eq_false, Bool.not_true, Bool.not_false, Bool.not_not, List.getElem?_cons_zero, List.getElem?_cons_succ, List.set_cons_zero, List.set_cons_succ, List.length_cons, List.length_nil, List.cons_append, List.nil_append, reduceCtorEq, List.replicate_zero, List.replicate_succ, Nat.reduceAdd, Nat.reduceSub, decide_true, decide_false, intsOf_map', blsOf_map', strsOf_map', map_int_inj, map_str_inj, map_bool_inj, map_itD_inj, itD_iff, sh_int, sh_bool, sh_none, sh_itD, sh_nil, sh_ints, sh_its, eqv_int, eqv_bool, eqv_str, eqv_itD, eqv_ints, eqv_strs, eqv_its, eqv_nil, Nat.zero_le, and_assoc]
            exact n
          | true =>
            rw [hb] at n
            simp only [wVar, wOwn, wC, wOp, wT, wChain, wAndT, wOrT, wNotT, wAnd, wOr, wNot, wIf, wNil, wCons, wDisp, wCall, wCall0, wNoPart, wPart, wSl, wRevL, wBlt, wItL, wItT, wItS, wRg1, wRg2, wEnum, wZip, wLR, wLR2, wYes, wM1, wFmt, wJoined, wIsi, wNeg, wNewD, wOwnCat, wPar2, wNext, wSeq, wNever, wSet, wNew, wAug, wExtend, wAppend, wPut, wFrz, wRet, wRetOwn, wRetN, wDrop, wIfS, wgName, wgTup, wUnp, wRaise, bodyEN, wLc, wFor, wSortSet, e_add_i, e_add_s, e_add_l, e_add_t, e_kadd_i, e_kadd_s, e_kadd_l, e_kadd_t, e_sub, e_kt, e_mul_i, e_mul_l, e_kmul_i, e_kmul_l, e_div, e_kdiv, e_mod, e_kmod, e_cmp, e_eq, e_ne, e_keq, e_is_n, e_is_b, e_isn_n, e_isn_b, e_non_n, e_non_l, e_non_t, e_non_i, e_non_s, e_non_b, e_non_x, e_in_l, e_in_t, e_ni_l, e_ni_t, e_kin_l, e_kin_t, e_kin_s, e_ix_l, e_ix_t, e_ix_s, e_kix_l, e_kix_t, e_kix_s, e_sl_l, e_sl_t, e_sl_s, e_len_l, e_len_t, e_len_s, e_klen_l, e_klen_t, e_klen_s, e_kany, e_list_l, e_list_t, e_tup_l, e_tup_t, e_sum, e_max, e_max2, e_min, e_kne, e_kne2, e_all, e_str, e_kstr, e_int, e_kint, e_split, e_ksplit, e_part, e_kpart, e_join, e_kjoin, e_pys0, e_pys1, e_sa0, e_sa1, e_wipe0, e_wipe1, e_js0, e_js1, e_ty_i, e_ty_b, e_ty_n, e_ty_s, e_ty_l, e_ty_t, e_isi_ii, e_isi_ib, e_isi_in, e_isi_is, e_isi_il, e_isi_it, e_isi_bi, e_isi_bb, e_isi_bn, e_isi_bs, e_isi_bl, e_isi_bt, e_isi_li, e_isi_lb, e_isi_ln, e_isi_ls, e_isi_ll, e_isi_lt, e_isi_ti, e_isi_tb, e_isi_tn, e_isi_ts, e_isi_tl, e_isi_tt, e_isi_si, e_isi_sb, e_isi_sn, e_isi_ss, e_isi_sl, e_isi_st, e_up, e_st0, e_st1, e_st2, exists_eq_left, exists_eq_left', exists_eq_right, exists_eq_right', exists_eq', exists_eq, true_and, and_true, and_self, false_and, and_false, exists_and_left, exists_and_right, exists_const, Option.some.injEq, Option.map_some, Option.map_none, Sl.is.injEq, Sl.own.injEq, D.py.injEq, D.ex.injEq, D.rf.injEq, PyData.int.injEq, PyData.bool.injEq, PyData.str.injEq, PyData.list.injEq, PyData.tuple.injEq, List.cons.injEq, if_true, if_false, eq_self, Bool.false_eq_true, Bool.true_eq_false, Bool.not_true, Bool.not_false, Bool.not_not, List.getElem?_cons_zero, List.getElem?_cons_succ, List.set_cons_zero, List.set_cons_succ, List.length_cons, List.length_nil, List.cons_append, List.nil_append, reduceCtorEq, List.replicate_zero, List.replicate_succ, Nat.reduceAdd, Nat.reduceSub, decide_true, decide_false, intsOf_map', blsOf_map', strsOf_map', map_int_inj, map_str_inj, map_bool_inj, map_itD_inj, itD_iff, sh_int, sh_bool, sh_none, sh_itD, sh_nil, sh_ints, sh_its, eqv_int, eqv_bool, eqv_str, eqv_itD, eqv_ints, eqv_strs, eqv_its, eqv_nil, Nat.zero_le, and_assoc]
            rw [hd, cutD_tail, ← List.map_drop, zipD_ints, List.map_map]
            refine lcGo_map (D.py ∘ prD) (fun p => .bool (decide (p.1 < p.2))) _ (fun x hx T q => ?_) ?_ ?_
            · simp only [Function.comp, prD, wVar, wOwn, wC, wOp, wT, wChain, wAndT, wOrT, wNotT, wAnd, wOr, wNot, wIf, wNil, wCons, wDisp, wCall, wCall0, wNoPart, wPart, wSl, wRevL, wBlt, wItL, wItT, wItS, wRg1, wRg2, wEnum, wZip, wLR, wLR2, wYes, wM1, wFmt, wJoined, wIsi, wNeg, wNewD, wOwnCat, wPar2, wNext, wSeq, wNever, wSet, wNew, wAug, wExtend, wAppend, wPut, wFrz, wRet, wRetOwn, wRetN, wDrop, wIfS, wgName, wgTup, wUnp, wRaise, bodyEN, wLc, wFor, wSortSet, e_add_i, e_add_s, e_add_l, e_add_t, e_kadd_i, e_kadd_s, e_kadd_l, e_kadd_t, e_sub, e_kt, e_mul_i, e_mul_l, e_kmul_i, e_kmul_l, e_div, e_kdiv, e_mod, e_kmod, e_cmp, e_eq, e_ne, e_keq, e_is_n, e_is_b, e_isn_n, e_isn_b, e_non_n, e_non_l, e_non_t, e_non_i, e_non_s, e_non_b, e_non_x, e_in_l, e_in_t, e_ni_l, e_ni_t, e_kin_l, e_kin_t, e_kin_s, e_ix_l, e_ix_t, e_ix_s, e_kix_l, e_kix_t, e_kix_s, e_sl_l, e_sl_t, e_sl_s, e_len_l, e_len_t, e_len_s, e_klen_l, e_klen_t, e_klen_s, e_kany, e_list_l, e_list_t, e_tup_l, e_tup_t, e_sum, e_max, e_max2, e_min, e_kne, e_kne2, e_all, e_str, e_kstr, e_int, e_kint, e_split, e_ksplit, e_part, e_kpart, e_join, e_kjoin, e_pys0, e_pys1, e_sa0, e_sa1, e_wipe0, e_wipe1, e_js0, e_js1, e_ty_i, e_ty_b, e_ty_n, e_ty_s, e_ty_l, e_ty_t, e_isi_ii, e_isi_ib, e_isi_in, e_isi_is, e_isi_il, e_isi_it, e_isi_bi, e_isi_bb, e_isi_bn, e_isi_bs, e_isi_bl, e_isi_bt, e_isi_li, e_isi_lb, e_isi_ln, e_isi_ls, e_isi_ll, e_isi_lt, e_isi_ti, e_isi_tb, e_isi_tn, e_isi_ts, e_isi_tl, e_isi_tt, e_isi_si, e_isi_sb, e_isi_sn, e_isi_ss, e_isi_sl, e_isi_st, e_up, e_st0, e_st1, e_st2, exists_eq_left, exists_eq_left', exists_eq_right, exists_eq_right', exists_eq', exists_eq, true_and, and_true, and_self, false_and, and_false, exists_and_left, exists_and_right, exists_const, Option.some.injEq, Option.map_some, Option.map_none, Sl.is.injEq, Sl.own.injEq, D.py.injEq, D.ex.injEq, D.rf.injEq, PyData.int.injEq, PyData.bool.injEq, PyData.str.injEq, PyData.list.injEq, PyData.tuple.injEq, List.cons.injEq, if_true, if_false, eq_self, Bool.false_eq_true, Bool.true_eq_false, Bool.not_true, Bool.not_false, Bool.not_not, List.getElem?_cons_zero, List.getElem?_cons_succ, List.set_cons_zero, List.set_cons_succ, List.length_cons, List.length_nil, List.cons_append, List.nil_append, reduceCtorEq, List.replicate_zero, List.replicate_succ, Nat.reduceAdd, Nat.reduceSub, decide_true, decide_false, intsOf_map', blsOf_map', strsOf_map', map_int_inj, map_str_inj, map_bool_inj, map_itD_inj, itD_iff, sh_int, sh_bool, sh_none, sh_itD, sh_nil, sh_ints, sh_its, eqv_int, eqv_bool, eqv_str, eqv_itD, eqv_ints, eqv_strs, eqv_its, eqv_nil, Nat.zero_le, and_assoc]
              exact q
            · refine le_line ?_
              have hl : (d0 :: ds).length = ns.length := by rw [hd, List.length_map]
              rw [List.length_zip]
              omega
            · have e : (ns.zip (ns.drop 1)).map (fun p => PyData.bool (decide (p.1 < p.2))) = ((ns.zip (ns.drop 1)).map (fun p => decide (p.1 < p.2))).map PyData.bool := by simp
              rw [e]
              simp only [wVar, wOwn, wC, wOp, wT, wChain, wAndT, wOrT, wNotT, wAnd, wOr, wNot, wIf, wNil, wCons, wDisp, wCall, wCall0, wNoPart, wPart, wSl, wRevL, wBlt, wItL, wItT, wItS, wRg1, wRg2, wEnum, wZip, wLR, wLR2, wYes, wM1, wFmt, wJoined, wIsi, wNeg, wNewD, wOwnCat, wPar2, wNext, wSeq, wNever, wSet, wNew, wAug, wExtend, wAppend, wPut, wFrz, wRet, wRetOwn, wRetN, wDrop, wIfS, wgName, wgTup, wUnp, wRaise, bodyEN, wLc, wFor, wSortSet, e_add_i, e_add_s, e_add_l, e_add_t, e_kadd_i, e_kadd_s, e_kadd_l, e_kadd_t, e_sub, e_kt, e_mul_i, e_mul_l, e_kmul_i, e_kmul_l, e_div, e_kdiv, e_mod, e_kmod, e_cmp, e_eq, e_ne, e_keq, e_is_n, e_is_b, e_isn_n, e_isn_b, e_non_n, e_non_l, e_non_t, e_non_i, e_non_s, e_non_b, e_non_x, e_in_l, e_in_t, e_ni_l, e_ni_t, e_kin_l, e_kin_t, e_kin_s, e_ix_l, e_ix_t, e_ix_s, e_kix_l, e_kix_t, e_kix_s, e_sl_l, e_sl_t, e_sl_s, e_len_l, e_len_t, e_len_s, e_klen_l, e_klen_t, e_klen_s, e_kany, e_list_l, e_list_t, e_tup_l, e_tup_t, e_sum, e_max, e_max2, e_min, e_kne, e_kne2, e_all, e_str, e_kstr, e_int, e_kint, e_split, e_ksplit, e_part, e_kpart, e_join, e_kjoin, e_pys0, e_pys1, e_sa0, e_sa1, e_wipe0, e_wipe1, e_js0, e_js1, e_ty_i, e_ty_b, e_ty_n, e_ty_s, e_ty_l, e_ty_t, e_isi_ii, e_isi_ib, e_isi_in, e_isi_is, e_isi_il, e_isi_it, e_isi_bi, e_isi_bb, e_isi_bn, e_isi_bs, e_isi_bl, e_isi_bt, e_isi_li, e_isi_lb, e_isi_ln, e_isi_ls, e_isi_ll, e_isi_lt, e_isi_ti, e_isi_tb, e_isi_tn, e_isi_ts, e_isi_tl, e_isi_tt, e_isi_si, e_isi_sb, e_isi_sn, e_isi_ss, e_isi_sl, e_isi_st, e_up, e_st0, e_st1, e_st2, exists_eq_left, exists_eq_left', exists_eq_right, exists_eq_right', exists_eq', exists_eq, true_and, and_true, and_self, false_and, and_false, exists_and_left, exists_and_right, exists_const, Option.some.injEq, Option.map_some, Option.map_none, Sl.is.injEq, Sl.own.injEq, D.py.injEq, D.ex.injEq, D.rf.injEq, PyData.int.injEq, PyData.bool.injEq, PyData.str.injEq, PyData.list.injEq, PyData.tuple.injEq, List.cons.injEq, if_true, if_false, eq_self, Bool.false_eq_true, Bool.true_eq_false, Bool.not_true, Bool.not_false, Bool.not_not, List.getElem?_cons_zero, List.getElem?_cons_succ, List.set_cons_zero, List.set_cons_succ, List.length_cons, List.length_nil, List.cons_append, List.nil_append, reduceCtorEq, List.replicate_zero, List.replicate_succ, Nat.reduceAdd, Nat.reduceSub, decide_true, decide_false, intsOf_map', blsOf_map', strsOf_map', map_int_inj, map_str_inj, map_bool_inj, map_itD_inj, itD_iff, sh_int, sh_bool, sh_none, sh_itD, sh_nil, sh_ints, sh_its, eqv_int, eqv_bool, eqv_str, eqv_itD, eqv_ints, eqv_strs, eqv_its, eqv_nil, Nat.zero_le, and_assoc]
              rw [asc_zip]
              exact n
  | _ =>
    simp only [w_is_set, wVar, wOwn, wC, wOp, wT, wChain, wAndT, wOrT, wNotT, wAnd, wOr, wNot, wIf, wNil, wCons, wDisp, wCall, wCall0, wNoPart, wPart, wSl, wRevL, wBlt, wItL, wItT, wItS, wRg1, wRg2, wEnum, wZip, wLR, wLR2, wYes, wM1, wFmt, wJoined, wIsi, wNeg, wNewD, wOwnCat, wPar2, wNext, wSeq, wNever, wSet, wNew, wAug, wExtend, wAppend, wPut, wFrz, wRet, wRetOwn, wRetN, wDrop, wIfS, wgName, wgTup, wUnp, wRaise, bodyEN, wLc, wFor, wSortSet, e_add_i, e_add_s, e_add_l, e_add_t, e_kadd_i, e_kadd_s, e_kadd_l, e_kadd_t, e_sub, e_kt, e_mul_i, e_mul_l, e_kmul_i, e_kmul_l, e_div, e_kdiv, e_mod, e_kmod, e_cmp, e_eq, e_ne, e_keq, e_is_n, e_is_b, e_isn_n, e_isn_b, e_non_n, e_non_l, e_non_t, e_non_i, e_non_s, e_non_b, e_non_x, e_in_l, e_in_t, e_ni_l, e_ni_t, e_kin_l, e_kin_t, e_kin_s, e_ix_l, e_ix_t, e_ix_s, e_kix_l, e_kix_t, e_kix_s, e_sl_l, e_sl_t, e_sl_s, e_len_l, e_len_t, e_len_s, e_klen_l, e_klen_t, e_klen_s, e_kany, e_list_l, e_list_t, e_tup_l, e_tup_t, e_sum, e_max, e_max2, e_min, e_kne, e_kne2, e_all, e_str, e_kstr, e_int, e_kint, e_split, e_ksplit, e_part, e_kpart, e_join, e_kjoin, e_pys0, e_pys1, e_sa0, e_sa1, e_wipe0, e_wipe1, e_js0, e_js1, e_ty_i, e_ty_b, e_ty_n, e_ty_s, e_ty_l, e_ty_t, e_isi_ii, e_isi_ib, e_isi_in, e_isi_is, e_isi_il, e_isi_it, e_isi_bi, e_isi_bb, e_isi_bn, e_isi_bs, e_isi_bl, e_isi_bt, e_isi_li, e_isi_lb, e_isi_ln, e_isi_ls, e_isi_ll, e_isi_lt, e_isi_ti, e_isi_tb, e_isi_tn, e_isi_ts, e_isi_tl, e_isi_tt, e_isi_si, e_isi_sb, e_isi_sn, e_isi_ss, e_isi_sl, e_isi_st, e_up, e_st0, e_st1, e_st2, exists_eq_left, exists_eq_left', exists_eq_right, exists_eq_right', exists_eq', exists_eq, true_and, and_true, and_self, false_and, and_false, exists_and_left, exists_and_right, exists_const, Option.some.injEq, Option.map_some, Option.map_none, Sl.is.injEq, Sl.own.injEq, D.py.injEq, D.ex.injEq, D.rf.injEq, PyData.int.injEq, PyData.bool.injEq, PyData.str.injEq, PyData.list.injEq, PyData.tuple.injEq, List.cons.injEq, if_true, if_false, eq_self, Bool.false_eq_true, Bool.true_eq_false, Bool.not_true, Bool.not_false, Bool.not_not, List.getElem?_cons_zero, List.getElem?_cons_succ, List.set_cons_zero, List.set_cons_succ, List.length_cons, List.length_nil, List.cons_append, List.nil_append, reduceCtorEq, List.replicate_zero, List.replicate_succ, Nat.reduceAdd, Nat.reduceSub, decide_true, decide_false, intsOf_map', blsOf_map', strsOf_map', map_int_inj, map_str_inj, map_bool_inj, map_itD_inj, itD_iff, sh_int, sh_bool, sh_none, sh_itD, sh_nil, sh_ints, sh_its, eqv_int, eqv_bool, eqv_str, eqv_itD, eqv_ints, eqv_strs, eqv_its, eqv_nil, Nat.zero_le, and_assoc, sh]
    exact n
def sp_check_set : Spec0 := fun ds N Nx => ∃ d, ds = [.py d] ∧ Fine d ∧ (if isSetD d = true then N (.py .none) else Nx .set)
def w_check_set : WS Unit :=
  wIfS (wNotT (wT (wCall0 sp_is_set (wCons (wVar 0) (wNil))))) (wRaise .set) (wNext)
theorem law_check_set : ∀ ds θ N Nx, sp_check_set.up ds θ N Nx → w_check_set (bodyEN N Nx) (startD 1 ds) θ := by
  rintro ds θ N Nx ⟨d, rfl, fn, n⟩
  simp only [w_check_set, sp_is_set, wVar, wOwn, wC, wOp, wT, wChain, wAndT, wOrT, wNotT, wAnd, wOr, wNot, wIf, wNil, wCons, wDisp, wCall, wCall0, wNoPart, wPart, wSl, wRevL, wBlt, wItL, wItT, wItS, wRg1, wRg2, wEnum, wZip, wLR, wLR2, wYes, wM1, wFmt, wJoined, wIsi, wNeg, wNewD, wOwnCat, wPar2, wNext, wSeq, wNever, wSet, wNew, wAug, wExtend, wAppend, wPut, wFrz, wRet, wRetOwn, wRetN, wDrop, wIfS, wgName, wgTup, wUnp, wRaise, bodyEN, wLc, wFor, wSortSet, e_add_i, e_add_s, e_add_l, e_add_t, e_kadd_i, e_kadd_s, e_kadd_l, e_kadd_t, e_sub, e_kt, e_mul_i, e_mul_l, e_kmul_i, e_kmul_l, e_div, e_kdiv, e_mod, e_kmod, e_cmp, e_eq, e_ne, e_keq, e_is_n, e_is_b, e_isn_n, e_isn_b, e_non_n, e_non_l, e_non_t, e_non_i, e_non_s, e_non_b, e_non_x, e_in_l, e_in_t, e_ni_l, e_ni_t, e_kin_l, e_kin_t, e_kin_s, e_ix_l, e_ix_t, e_ix_s, e_kix_l, e_kix_t, e_kix_s, e_sl_l, e_sl_t, e_sl_s, e_len_l, e_len_t, e_len_s, e_klen_l, e_klen_t, e_klen_s, e_kany, e_list_l, e_list_t, e_tup_l, e_tup_t, e_sum, e_max, e_max2, e_min, e_kne, e_kne2, e_all, e_str, e_kstr, e_int, e_kint, e_split, e_ksplit, e_part, e_kpart, e_join, e_kjoin, e_pys0, e_pys1, e_sa0, e_sa1, e_wipe0, e_wipe1, e_js0, e_js1, e_ty_i, e_ty_b, e_ty_n, e_ty_s, e_ty_l, e_ty_t, e_isi_ii, e_isi_ib, e_isi_in, e_isi_is, e_isi_il, e_isi_it, e_isi_bi, e_isi_bb, e_isi_bn, e_isi_bs, e_isi_bl, e_isi_bt, e_isi_li, e_isi_lb, e_isi_ln, e_isi_ls, e_isi_ll, e_isi_lt, e_isi_ti, e_isi_tb, e_isi_tn, e_isi_ts, e_isi_tl, e_isi_tt, e_isi_si, e_isi_sb, e_isi_sn, e_isi_ss, e_isi_sl, e_isi_st, e_up, e_st0, e_st1, e_st2, exists_eq_left, exists_eq_left', exists_eq_right, exists_eq_right', exists_eq', exists_eq, true_and, and_true, and_self, false_and, and_false, exists_and_left, exists_and_right, exists_const, Option.some.injEq, Option.map_some, Option.map_none, Sl.is.injEq, Sl.own.injEq, D.py.injEq, D.ex.injEq, D.rf.injEq, PyData.int.injEq, PyData.bool.injEq, PyData.str.injEq, PyData.list.injEq, PyData.tuple.injEq, List.cons.injEq, if_true, if_false, eq_self, Bool.false_eq_true, Bool.true_eq_false, Bool.not_true, Bool.not_false, Bool.not_not, List.getElem?_cons_zero, List.getElem?_cons_succ, List.set_cons_zero, List.set_cons_succ, List.length_cons, List.length_nil, List.cons_append, List.nil_append, reduceCtorEq, List.replicate_zero, List.replicate_succ, Nat.reduceAdd, Nat.reduceSub, decide_true, decide_false, intsOf_map', blsOf_map', strsOf_map', map_int_inj, map_str_inj, map_bool_inj, map_itD_inj, itD_iff, sh_int, sh_bool, sh_none, sh_itD, sh_nil, sh_ints, sh_its, eqv_int, eqv_bool, eqv_str, eqv_itD, eqv_ints, eqv_strs, eqv_its, eqv_nil, Nat.zero_le, and_assoc]
  refine ⟨fn, ?_⟩
  cases h : isSetD d <;> rw [h] at n <;> simp only [wVar, wOwn, wC, wOp, wT, wChain, wAndT, wOrT, wNotT, wAnd, wOr, wNot, wIf, wNil, wCons, wDisp, wCall, wCall0, wNoPart, wPart, wSl, wRevL, wBlt, wItL, wItT, wItS, wRg1, wRg2, wEnum, wZip, wLR, wLR2, wYes, wM1, wFmt, wJoined, wIsi, wNeg, wNewD, wOwnCat, wPar2, wNext, wSeq, wNever, wSet, wNew, wAug, wExtend, wAppend, wPut, wFrz, wRet, wRetOwn, wRetN, wDrop, wIfS, wgName, wgTup, wUnp, wRaise, bodyEN, wLc, wFor, wSortSet, e_add_i, e_add_s, e_add_l, e_add_t, e_kadd_i, e_kadd_s, e_kadd_l, e_kadd_t, e_sub, e_kt, e_mul_i, e_mul_l, e_kmul_i, e_kmul_l, e_div, e_kdiv, e_mod, e_kmod, e_cmp, e_eq, e_ne, e_keq, e_is_n, e_is_b, e_isn_n, e_isn_b, e_non_n, e_non_l, e_non_t, e_non_i, e_non_s, e_non_b, e_non_x, e_in_l, e_in_t, e_ni_l, e_ni_t, e_kin_l, e_kin_t, e_kin_s, e_ix_l, e_ix_t, e_ix_s, e_kix_l, e_kix_t, e_kix_s, e_sl_l, e_sl_t, e_sl_s, e_len_l, e_len_t, e_len_s, e_klen_l, e_klen_t, e_klen_s, e_kany, e_list_l, e_list_t, e_tup_l, e_tup_t, e_sum, e_max, e_max2, e_min, e_kne, e_kne2, e_all, e_str, e_kstr, e_int, e_kint, e_split, e_ksplit, e_part, e_kpart, e_join, e_kjoin, e_pys0, e_pys1, e_sa0, e_sa1, e_wipe0, e_wipe1, e_js0, e_js1, e_ty_i, e_ty_b, e_ty_n, e_ty_s, e_ty_l, e_ty_t, e_isi_ii, e_isi_ib, e_isi_in, e_isi_is, e_isi_il, e_isi_it, e_isi_bi, e_isi_bb, e_isi_bn, e_isi_bs, e_isi_bl, e_isi_bt, e_isi_li, e_isi_lb, e_isi_ln, e_isi_ls, e_isi_ll, e_isi_lt, e_isi_ti, e_isi_tb, e_isi_tn, e_isi_ts, e_isi_tl, e_isi_tt, e_isi_si, e_isi_sb, e_isi_sn, e_isi_ss, e_isi_sl, e_isi_st, e_up, e_st0, e_st1, e_st2, exists_eq_left, exists_eq_left', exists_eq_right, exists_eq_right', exists_eq', exists_eq, true_and, and_true, and_self, false_and, and_false, exists_and_left, exists_and_right, exists_const, Option.some.injEq, Option.map_some, Option.map_none, Sl.is.injEq, Sl.own.injEq, D.py.injEq, D.ex.injEq, D.rf.injEq, PyData.int.injEq, PyData.bool.injEq, PyData.str.injEq, PyData.list.injEq, PyData.tuple.injEq, List.cons.injEq, if_true, if_false, eq_self, Bool.false_eq_true, Bool.true_eq_false, Bool.not_true, Bool.not_false, Bool.not_not, List.getElem?_cons_zero, List.getElem?_cons_succ, List.set_cons_zero, List.set_cons_succ, List.length_cons, List.length_nil, List.cons_append, List.nil_append, reduceCtorEq, List.replicate_zero, List.replicate_succ, Nat.reduceAdd, Nat.reduceSub, decide_true, decide_false, intsOf_map', blsOf_map', strsOf_map', map_int_inj, map_str_inj, map_bool_inj, map_itD_inj, itD_iff, sh_int, sh_bool, sh_none, sh_itD, sh_nil, sh_ints, sh_its, eqv_int, eqv_bool, eqv_str, eqv_itD, eqv_ints, eqv_strs, eqv_its, eqv_nil, Nat.zero_le, and_assoc] at n ⊢ <;> exact n
/-! ### items -/
def itemOk (q : Itm) : Bool := ((decide (1 ≤ q.1) && decide (q.1 ≤ 10)) && ((decide (1 ≤ q.2.1) && decide (q.2.1 ≤ 10)) && (decide (1 ≤ q.2.2) && decide (q.2.2 ≤ 10)))) && (if q.1 = q.2.1 then decide (q.2.2 = 1) else decide (q.1 < q.2.1) && decide ((q.2.1 - q.1) % q.2.2 = 0))
def isItemD : PyData → Bool
  | .tuple [.int a, .int b, .int c] => itemOk (a, b, c)
  | _ => false
def sp_is_item : Spec0 := fun ds N _ => ∃ d, ds = [.py d] ∧ Sz d ∧ N (.py (.bool (isItemD d)))
def w_is_item : WS Unit :=
  wSeq (wIfS (wOrT (wNotT (wT (wIsi "tuple" (wVar 0)))) (wOrT (wT (wOp fNe kEq (wBlt fLen kLen (wCons (wVar 0) (wNil))) (wC (.int 3)))) (wNotT (wT (wBlt fAll kAny (wCons (wLc (wItT (wVar 0)) (wgName 4) (wYes) (wCall0 sp_is_int (wCons (wVar 4) (wCons (wC (.int 1)) (wCons (wC (.int 10)) (wNil))))) [4]) (wNil))))))) (wRet (wC (.bool false))) (wNext)) (wSeq (wUnp [1, 2, 3] (wVar 0)) (wSeq (wIfS (wT (wOp fEq kEq (wVar 1) (wVar 2))) (wRet (wOp fEq kEq (wVar 3) (wC (.int 1)))) (wNext)) (wRet (wAnd (wOp fLt kTrue (wVar 1) (wVar 2)) (wOp fEq kEq (wOp fMod kMod (wOp fSub kTrue (wVar 2) (wVar 1)) (wVar 3)) (wC (.int 0)))))))
theorem item_none {x y z : PyData} (h : intsOf [x, y, z] = none) : isItemD (.tuple [x, y, z]) = false := by
  unfold isItemD
  split
  · rename_i e
    cases e
    cases h
  · rfl
theorem law_is_item : ∀ ds θ N Nx, sp_is_item.up ds θ N Nx → w_is_item (bodyEN N Nx) (startD 5 ds) θ := by
  rintro ds θ N Nx ⟨d, rfl, sz, n⟩
  cases d with
  | tuple ds =>
    have sz : ds.length ≤ 1000000 := sz
    simp only [w_is_item, wVar, wOwn, wC, wOp, wT, wChain, wAndT, wOrT, wNotT, wAnd, wOr, wNot, wIf, wNil, wCons, wDisp, wCall, wCall0, wNoPart, wPart, wSl, wRevL, wBlt, wItL, wItT, wItS, wRg1, wRg2, wEnum, wZip, wLR, wLR2, wYes, wM1, wFmt, wJoined, wIsi, wNeg, wNewD, wOwnCat, wPar2, wNext, wSeq, wNever, wSet, wNew, wAug, wExtend, wAppend, wPut, wFrz, wRet, wRetOwn, wRetN, wDrop, wIfS, wgName, wgTup, wUnp, wRaise, bodyEN, wLc, wFor, wSortSet, e_add_i, e_add_s, e_add_l, e_add_t, e_kadd_i, e_kadd_s, e_kadd_l, e_kadd_t, e_sub, e_kt, e_mul_i, e_mul_l, e_kmul_i, e_kmul_l, e_div, e_kdiv, e_mod, e_kmod, e_cmp, e_eq, e_ne, e_keq, e_is_n, e_is_b, e_isn_n, e_isn_b, e_non_n, e_non_l, e_non_t, e_non_i, e_non_s, e_non_b, e_non_x, e_in_l, e_in_t, e_ni_l, e_ni_t, e_kin_l, e_kin_t, e_kin_s, e_ix_l, e_ix_t, e_ix_s, e_kix_l, e_kix_t, e_kix_s, e_sl_l, e_sl_t, e_sl_s, e_len_l, e_len_t, e_len_s, e_klen_l, e_klen_t, e_klen_s, e_kany, e_list_l, e_list_t, e_tup_l, e_tup_t, e_sum, e_max, e_max2, e_min, e_kne, e_kne2, e_all, e_str, e_kstr, e_int, e_kint, e_split, e_ksplit, e_part, e_kpart, e_join, e_kjoin, e_pys0, e_pys1, e_sa0, e_sa1, e_wipe0, e_wipe1, e_js0, e_js1, e_ty_i, e_ty_b, e_ty_n, e_ty_s, e_ty_l, e_ty_t, e_isi_ii, e_isi_ib, e_isi_in, e_isi_is, e_isi_il, e_isi_it, e_isi_bi, e_isi_bb, e_isi_bn, e_isi_bs, e_isi_bl, e_isi_bt, e_isi_li, e_isi_lb, e_isi_ln, e_isi_ls, e_isi_ll, e_isi_lt, e_isi_ti, e_isi_tb, e_isi_tn, e_isi_ts, e_isi_tl, e_isi_tt, e_isi_si, e_isi_sb, e_isi_sn, e_isi_ss, e_isi_sl, e_isi_st, e_up, e_st0, e_st1, e_st2, exists_eq_left, exists_eq_left', exists_eq_right, exists_eq_right', exists_eq', exists_eq, true_and, and_true, and_self, false_and, and_false, exists_and_left, exists_and_right, exists_const, Option.some.injEq, Option.map_some, Option.map_none, Sl.is.injEq, Sl.own.injEq, D.py.injEq, D.ex.injEq, D.rf.injEq, PyData.int.injEq, PyData.bool.injEq, PyData.str.injEq, PyData.list.injEq, PyData.tuple.injEq, List.cons.injEq, if_true, if_false, eq_self, Bool.false_eq_true, Bool.true_eq_false, Bool.not_true, Bool.not_false, Bool.not_not, List.getElem?_cons_zero, List.getElem?_cons_succ, List.set_cons_zero, List.set_cons_succ, List.length_cons, List.length_nil, List.cons_append, List.nil_append, reduceCtorEq, List.replicate_zero, List.replicate_succ, Nat.reduceAdd, Nat.reduceSub, decide_true, decide_false, intsOf_map', blsOf_map', strsOf_map', map_int_inj, map_str_inj, map_bool_inj, map_itD_inj, itD_iff, sh_int, sh_bool, sh_none, sh_itD, sh_nil, sh_ints, sh_its, eqv_int, eqv_bool, eqv_str, eqv_itD, eqv_ints, eqv_strs, eqv_its, eqv_nil, Nat.zero_le, and_assoc]
    by_cases hl : ds.length = 3
    · obtain ⟨x, y, z, rfl⟩ : ∃ x y z, ds = [x, y, z] := by
        match ds, hl with
        | [x, y, z], _ => exact ⟨x, y, z, rfl⟩
      simp only [wVar, wOwn, wC, wOp, wT, wChain, wAndT, wOrT, wNotT, wAnd, wOr, wNot, wIf, wNil, wCons, wDisp, wCall, wCall0, wNoPart, wPart, wSl, wRevL, wBlt, wItL, wItT, wItS, wRg1, wRg2, wEnum, wZip, wLR, wLR2, wYes, wM1, wFmt, wJoined, wIsi, wNeg, wNewD, wOwnCat, wPar2, wNext, wSeq, wNever, wSet, wNew, wAug, wExtend, wAppend, wPut, wFrz, wRet, wRetOwn, wRetN, wDrop, wIfS, wgName, wgTup, wUnp, wRaise, bodyEN, wLc, wFor, wSortSet, e_add_i, e_add_s, e_add_l, e_add_t, e_kadd_i, e_kadd_s, e_kadd_l, e_kadd_t, e_sub, e_kt, e_mul_i, e_mul_l, e_kmul_i, e_kmul_l, e_div, e_kdiv, e_mod, e_kmod, e_cmp, e_eq, e_ne, e_keq, e_is_n, e_is_b, e_isn_n, e_isn_b, e_non_n, e_non_l, e_non_t, e_non_i, e_non_s, e_non_b, e_non_x, e_in_l, e_in_t, e_ni_l, e_ni_t, e_kin_l, e_kin_t, e_kin_s, e_ix_l, e_ix_t, e_ix_s, e_kix_l, e_kix_t, e_kix_s, e_sl_l, e_sl_t, e_sl_s, e_len_l, e_len_t, e_len_s, e_klen_l, e_klen_t, e_klen_s, e_kany, e_list_l, e_list_t, e_tup_l, e_tup_t, e_sum, e_max, e_max2, e_min, e_kne, e_kne2, e_all, e_str, e_kstr, e_int, e_kint, e_split, e_ksplit, e_part, e_kpart, e_join, e_kjoin, e_pys0, e_pys1, e_sa0, e_sa1, e_wipe0, e_wipe1, e_js0, e_js1, e_ty_i, e_ty_b, e_ty_n, e_ty_s, e_ty_l, e_ty_t, e_isi_ii, e_isi_ib, e_isi_in, e_isi_is, e_isi_il, e_isi_it, e_isi_bi, e_isi_bb, e_isi_bn, e_isi_bs, e_isi_bl, e_isi_bt, e_isi_li, e_isi_lb, e_isi_ln, e_isi_ls, e_isi_ll, e_isi_lt, e_isi_ti, e_isi_tb, e_isi_tn, e_isi_ts, e_isi_tl, e_isi_tt, e_isi_si, e_isi_sb, e_isi_sn, e_isi_ss, e_isi_sl, e_isi_st, e_up, e_st0, e_st1, e_st2, exists_eq_left, exists_eq_left', exists_eq_right, exists_eq_right', exists_eq', exists_eq, true_and, and_true, and_self, false_and, and_false, exists_and_left, exists_and_right, exists_const, Option.some.injEq, Option.map_some, Option.map_none, Sl.is.injEq, Sl.own.injEq, D.py.injEq, D.ex.injEq, D.rf.injEq, PyData.int.injEq, PyData.bool.injEq, PyData.str.injEq, PyData.list.injEq, PyData.tuple.injEq, List.cons.injEq, if_true, if_false, eq_self, Bool.false_eq_true, Bool.true_eq_false, Bool.not_true, Bool.not_false, Bool.not_not, List.getElem?_cons_zero, List.getElem?_cons_succ, List.set_cons_zero, List.set_cons_succ, List.length_cons, List.length_nil, List.cons_append, List.nil_append, reduceCtorEq, List.replicate_zero, List.replicate_succ, Nat.reduceAdd, Nat.reduceSub, decide_true, decide_false, intsOf_map', blsOf_map', strsOf_map', map_int_inj, map_str_inj, map_bool_inj, map_itD_inj, itD_iff, sh_int, sh_bool, sh_none, sh_itD, sh_nil, sh_ints, sh_its, eqv_int, eqv_bool, eqv_str, eqv_itD, eqv_ints, eqv_strs, eqv_its, eqv_nil, Nat.zero_le, and_assoc, show decide (((([x, y, z] : List PyData).length : Nat) : Int) = 3) = true from rfl]
      refine lcGo_map D.py (fun d => .bool (isIntD 1 10 d)) _ (fun x hx T q => ?_) (le_line sz) ?_
      · simp only [sp_is_int, wVar, wOwn, wC, wOp, wT, wChain, wAndT, wOrT, wNotT, wAnd, wOr, wNot, wIf, wNil, wCons, wDisp, wCall, wCall0, wNoPart, wPart, wSl, wRevL, wBlt, wItL, wItT, wItS, wRg1, wRg2, wEnum, wZip, wLR, wLR2, wYes, wM1, wFmt, wJoined, wIsi, wNeg, wNewD, wOwnCat, wPar2, wNext, wSeq, wNever, wSet, wNew, wAug, wExtend, wAppend, wPut, wFrz, wRet, wRetOwn, wRetN, wDrop, wIfS, wgName, wgTup, wUnp, wRaise, bodyEN, wLc, wFor, wSortSet, e_add_i, e_add_s, e_add_l, e_add_t, e_kadd_i, e_kadd_s, e_kadd_l, e_kadd_t, e_sub, e_kt, e_mul_i, e_mul_l, e_kmul_i, e_kmul_l, e_div, e_kdiv, e_mod, e_kmod, e_cmp, e_eq, e_ne, e_keq, e_is_n, e_is_b, e_isn_n, e_isn_b, e_non_n, e_non_l, e_non_t, e_non_i, e_non_s, e_non_b, e_non_x, e_in_l, e_in_t, e_ni_l, e_ni_t, e_kin_l, e_kin_t, e_kin_s, e_ix_l, e_ix_t, e_ix_s, e_kix_l, e_kix_t, e_kix_s, e_sl_l, e_sl_t, e_sl_s, e_len_l, e_len_t, e_len_s, e_klen_l, e_klen_t, e_klen_s, e_kany, e_list_l, e_list_t, e_tup_l, e_tup_t, e_sum, e_max, e_max2, e_min, e_kne, e_kne2, e_all, e_str, e_kstr, e_int, e_kint, e_split, e_ksplit, e_part, e_kpart, e_join, e_kjoin, e_pys0, e_pys1, e_sa0, e_sa1, e_wipe0, e_wipe1, e_js0, e_js1, e_ty_i, e_ty_b, e_ty_n, e_ty_s, e_ty_l, e_ty_t, e_isi_ii, e_isi_ib, e_isi_in, e_isi_is, e_isi_il, e_isi_it, e_isi_bi, e_isi_bb, e_isi_bn, e_isi_bs, e_isi_bl, e_isi_bt, e_isi_li, e_isi_lb, e_isi_ln, e_isi_ls, e_isi_ll, e_isi_lt, e_isi_ti, e_isi_tb, e_isi_tn, e_isi_ts, e_isi_tl, e_isi_tt, e_isi_si, e_isi_sb, e_isi_sn, e_isi_ss, e_isi_sl, e_isi_st, e_up, e_st0, e_st1, e_st2, exists_eq_left, exists_eq_left', exists_eq_right, exists_eq_right', exists_eq', exists_eq, true_and, and_true, and_self, false_and, and_false, exists_and_left, exists_and_right, exists_const, Option.some.injEq, Option.map_some, Option.map_none, Sl.is.injEq, Sl.own.injEq, D.py.injEq, D.ex.injEq, D.rf.injEq, PyData.int.injEq, PyData.bool.injEq, PyData.str.injEq, PyData.list.injEq, PyData.tuple.injEq, List.cons.injEq, if_true, if_false, eq_self, Bool.false_eq_true, Bool.true_eq_false, Bool.not_true, Bool.not_false, Bool.not_not, List.getElem?_cons_zero, List.getElem?_cons_succ, List.set_cons_zero, List.set_cons_succ, List.length_cons, List.length_nil, List.cons_append, List.nil_append, reduceCtorEq, List.replicate_zero, List.replicate_succ, Nat.reduceAdd, Nat.reduceSub, decide_true, decide_false, intsOf_map', blsOf_map', strsOf_map', map_int_inj, map_str_inj, map_bool_inj, map_itD_inj, itD_iff, sh_int, sh_bool, sh_none, sh_itD, sh_nil, sh_ints, sh_its, eqv_int, eqv_bool, eqv_str, eqv_itD, eqv_ints, eqv_strs, eqv_its, eqv_nil, Nat.zero_le, and_assoc]
        exact q
      · have e : [x, y, z].map (fun d => PyData.bool (isIntD 1 10 d)) = ([x, y, z].map (isIntD 1 10)).map PyData.bool := by simp
        rw [e]
        simp only [wVar, wOwn, wC, wOp, wT, wChain, wAndT, wOrT, wNotT, wAnd, wOr, wNot, wIf, wNil, wCons, wDisp, wCall, wCall0, wNoPart, wPart, wSl, wRevL, wBlt, wItL, wItT, wItS, wRg1, wRg2, wEnum, wZip, wLR, wLR2, wYes, wM1, wFmt, wJoined, wIsi, wNeg, wNewD, wOwnCat, wPar2, wNext, wSeq, wNever, wSet, wNew, wAug, wExtend, wAppend, wPut, wFrz, wRet, wRetOwn, wRetN, wDrop, wIfS, wgName, wgTup, wUnp, wRaise, bodyEN, wLc, wFor, wSortSet, e_add_i, e_add_s, e_add_l, e_add_t, e_kadd_i, e_kadd_s, e_kadd_l, e_kadd_t, e_sub, e_kt, e_mul_i, e_mul_l, e_kmul_i, e_kmul_l, e_div, e_kdiv, e_mod, e_kmod, e_cmp, e_eq, e_ne, e_keq, e_is_n, e_is_b, e_isn_n, e_isn_b, e_non_n, e_non_l, e_non_t, e_non_i, e_non_s, e_non_b, e_non_x, e_in_l, e_in_t, e_ni_l, e_ni_t, e_kin_l, e_kin_t, e_kin_s, e_ix_l, e_ix_t, e_ix_s, e_kix_l, e_kix_t, e_kix_s, e_sl_l, e_sl_t, e_sl_s, e_len_l, e_len_t, e_len_s, e_klen_l, e_klen_t, e_klen_s, e_kany, e_list_l, e_list_t, e_tup_l, e_tup_t, e_sum, e_max, e_max2, e_min, e_kne, e_kne2, e_all, e_str, e_kstr, e_int, e_kint, e_split, e_ksplit, e_part, e_kpart, e_join, e_kjoin, e_pys0, e_pys1, e_sa0, e_sa1, e_wipe0, e_wipe1, e_js0, e_js1, e_ty_i, e_ty_b, e_ty_n, e_ty_s, e_ty_l, e_ty_t, e_isi_ii, e_isi_ib, e_isi_in, e_isi_is, e_isi_il, e_isi_it, e_isi_bi, e_isi_bb, e_isi_bn, e_isi_bs, e_isi_bl, e_isi_bt, e_isi_li, e_isi_lb, e_isi_ln, e_isi_ls, e_isi_ll, e_isi_lt, e_isi_ti, e_isi_tb, e_isi_tn, e_isi_ts, e_isi_tl, e_isi_tt, e_isi_si, e_isi_sb, e_isi_sn, e_isi_ss, e_isi_sl, e_isi_st, e_up, e_st0, e_st1, e_st2, exists_eq_left, exists_eq_left', exists_eq_right, exists_eq_right', exists_eq', exists_eq, true_and, and_true, and_self, false_and, and_false, exists_and_left, exists_and_right, exists_const, Option.some.injEq, Option.map_some, Option.map_none, Sl.is.injEq, Sl.own.injEq, D.py.injEq, D.ex.injEq, D.rf.injEq, PyData.int.injEq, PyData.bool.injEq, PyData.str.injEq, PyData.list.injEq, PyData.tuple.injEq, List.cons.injEq, if_true, if_false, eq_self, Bool.false_eq_true, Bool.true_eq_false, Bool.not_true, Bool.not_false, Bool.not_not, List.getElem?_cons_zero, List.getElem?_cons_succ, List.set_cons_zero, List.set_cons_succ, List.length_cons, List.length_nil, List.cons_append, List.nil_append, reduceCtorEq, List.replicate_zero, List.replicate_succ, Nat.reduceAdd, Nat.reduceSub, decide_true, decide_false, intsOf_map', blsOf_map', strsOf_map', map_int_inj, map_str_inj, map_bool_inj, map_itD_inj, itD_iff, sh_int, sh_bool, sh_none, sh_itD, sh_nil, sh_ints, sh_its, eqv_int, eqv_bool, eqv_str, eqv_itD, eqv_ints, eqv_strs, eqv_its, eqv_nil, Nat.zero_le, and_assoc, List.all_map, Function.comp_def, id]
        have ha := all_int 1 10 [x, y, z]
        cases hi : intsOf [x, y, z] with
        | none =>
          rw [item_none hi] at n
          rw [hi] at ha
          simp only [ha, wVar, wOwn, wC, wOp, wT, wChain, wAndT, wOrT, wNotT, wAnd, wOr, wNot, wIf, wNil, wCons, wDisp, wCall, wCall0, wNoPart, wPart, wSl, wRevL, wBlt, wItL, wItT, wItS, wRg1, wRg2, wEnum, wZip, wLR, wLR2, wYes, wM1, wFmt, wJoined, wIsi, wNeg, wNewD, wOwnCat, wPar2, wNext, wSeq, wNever, wSet, wNew, wAug, wExtend, wAppend, wPut, wFrz, wRet, wRetOwn, wRetN, wDrop, wIfS, wgName, wgTup, wUnp, wRaise, bodyEN, wLc, wFor, wSortSet, e_add_i, e_add_s, e_add_l, e_add_t, e_kadd_i, e_kadd_s, e_kadd_l, e_kadd_t, e_sub, e_kt, e_mul_i, e_mul_l, e_kmul_i, e_kmul_l, e_div, e_kdiv, e_mod, e_kmod, e_cmp, e_eq, e_ne, e_keq, e_is_n, e_is_b, e_isn_n, e_isn_b, e_non_n, e_non_l, e_non_t, e_non_i, e_non_s, e_non_b, e_non_x, e_in_l, e_in_t, e_ni_l, e_ni_t, e_kin_l, e_kin_t, e_kin_s, e_ix_l, e_ix_t, e_ix_s, e_kix_l, e_kix_t, e_kix_s, e_sl_l, e_sl_t, e_sl_s, e_len_l, e_len_t, e_len_s, e_klen_l, e_klen_t, e_klen_s, e_kany, e_list_l, e_list_t, e_tup_l, e_tup_t, e_sum, e_max, e_max2, e_min, e_kne, e_kne2, e_all, e_str, e_kstr, e_int, e_kint, e_split, e_ksplit, e_part, e_kpart, e_join, e_kjoin, e_pys0, e_pys1, e_sa0, e_sa1, e_wipe0, e_wipe1, e_js0, e_js1, e_ty_i, e_ty_b, e_ty_n, e_ty_s, e_ty_l, e_ty_t, e_isi_ii, e_isi_ib, e_isi_in, e_isi_is, e_isi_il, e_isi_it, e_isi_bi, e_isi_bb, e_isi_bn, e_isi_bs, e_isi_bl, e_isi_bt, e_isi_li, e_isi_lb, e_isi_ln, e_isi_ls, e_isi_ll, e_isi_lt, e_isi_ti, e_isi_tb, e_isi_tn, e_isi_ts, e_isi_tl, e_isi_tt, e_isi_si, e_isi_sb, e_isi_sn, e_isi_ss, e_isi_sl, e_isi_st, e_up, e_st0, e_st1, e_st2, exists_eq_left, exists_eq_left', exists_eq_right, exists_eq_right', exists_eq', exists_eq, true_and, and_true, and_self, false_and, and_false, exists_and_left, exists_and_right, exists_const, Option.some.injEq, Option.map_some, Option.map_none, Sl.is.injEq, Sl.own.injEq, D.py.injEq, D.ex.injEq, D.rf.injEq, PyData.int.injEq, PyData.bool.injEq, PyData.str.injEq, PyData.list.injEq, PyData.tuple.injEq, List.cons.injEq, if_true, if_false, eq_self, Bool.false_eq_true, Bool.true_eq_false, Bool.not_true, Bool.not_false, Bool.not_not, List.getElem?_cons_zero, List.getElem?_cons_succ, List.set_cons_zero, List.set_cons_succ, List.length_cons, List.length_nil, List.cons_append, List.nil_append, reduceCtorEq, List.replicate_zero, List.replicate_succ, Nat.reduceAdd, Nat.reduceSub, decide_true, decide_false, intsOf_map', blsOf_map', strsOf_map', map_int_inj, map_str_inj, map_bool_inj, map_itD_inj, itD_iff, sh_int, sh_bool, sh_none, sh_itD, sh_nil, sh_ints, sh_its, eqv_int, eqv_bool, eqv_str, eqv_itD, eqv_ints, eqv_strs, eqv_its, eqv_nil, Nat.zero_le, and_assoc]
          exact n
        | some ns =>
          simp only [hi] at ha
          rw [ha]
          have hd := intsOf_eq hi
          match ns, hd with
          | [a, b, c], hd =>
            cases hd
            simp only [isItemD, itemOk, List.all_cons, List.all_nil, Bool.and_true] at n ⊢
            cases hb : ((decide (1 ≤ a) && decide (a ≤ 10)) && ((decide (1 ≤ b) && decide (b ≤ 10)) && (decide (1 ≤ c) && decide (c ≤ 10)))) with
            | false =>
              rw [hb] at n
              simp only [wVar, wOwn, wC, wOp, wT, wChain, wAndT, wOrT, wNotT, wAnd, wOr, wNot, wIf, wNil, wCons, wDisp, wCall, wCall0, wNoPart, wPart, wSl, wRevL, wBlt, wItL, wItT, wItS, wRg1, wRg2, wEnum, wZip, wLR, wLR2, wYes, wM1, wFmt, wJoined, wIsi, wNeg, wNewD, wOwnCat, wPar2, wNext, wSeq, wNever, wSet, wNew, wAug, wExtend, wAppend, wPut, wFrz, wRet, wRetOwn, wRetN, wDrop, wIfS, wgName, wgTup, wUnp, wRaise, bodyEN, wLc, wFor, wSortSet, e_add_i, e_add_s, e_add_l, e_add_t, e_kadd_i, e_kadd_s, e_kadd_l, e_kadd_t, e_sub, e_kt, e_mul_i, e_mul_l, e_kmul_i, e_kmul_l, e_div, e_kdiv, e_mod, e_kmod, e_cmp, e_eq, e_ne, e_keq, e_is_n, e_is_b, e_isn_n, e_isn_b, e_non_n, e_non_l, e_non_t, e_non_i, e_non_s, e_non_b, e_non_x, e_in_l, e_in_t, e_ni_l, e_ni_t, e_kin_l, e_kin_t, e_kin_s, e_ix_l, e_ix_t, e_ix_s, e_kix_l, e_kix_t, e_kix_s, e_sl_l, e_sl_t, e_sl_s, e_len_l, e_len_t, e_len_s, e_klen_l, e_klen_t, e_klen_s, e_kany, e_list_l, e_list_t, e_tup_l, e_tup_t, e_sum, e_max, e_max2, e_min, e_kne, e_kne2, e_all, e_str, e_kstr, e_int, e_kint, e_split, e_ksplit, e_part, e_kpart, e_join, e_kjoin, e_pys0, e_pys1, e_sa0, e_sa1, e_wipe0, e_wipe1, e_js0, e_js1, e_ty_i, e_ty_b, e_ty_n, e_ty_s, e_ty_l, e_ty_t, e_isi_ii, e_isi_ib, e_isi_in, e_isi_is, e_isi_il, e_isi_it, e_isi_bi, e_isi_bb, e_isi_bn, e_isi_bs, e_isi_bl, e_isi_bt, e_isi_li, e_isi_lb, e_isi_ln, e_isi_ls, e_isi_ll, e_isi_lt, e_isi_ti, e_isi_tb, e_isi_tn, e_isi_ts, e_isi_tl, e_isi_tt, e_isi_si, e_isi_sb, e_isi_sn, e_isi_ss, e_isi_sl, e_isi_st, e_up, e_st0, e_st1, e_st2, exists_eq_left, exists_eq_left', exists_eq_right, exists_eq_right', exists_eq', exists_eq, true_and, and_true, and_self, false_and, and_false, exists_and_left, exists_and_right, exists_const, Option.some.injEq, Option.map_some, Option.map_none, Sl.is.injEq, Sl.own.injEq, D.py.injEq, D.ex.injEq, D.rf.injEq, PyData.int.injEq, PyData.bool.injEq, PyData.str.injEq, PyData.list.injEq, PyData.tuple.injEq, List.cons.injEq, if_true, if_false, eq_self, Bool.false_eq_true, Bool.true_eq_false, Bool.not_true, Bool.not_false, Bool.not_not, List.getElem?_cons_zero, List.getElem?_cons_succ, List.set_cons_zero, List.set_cons_succ, List.length_cons, List.length_nil, List.cons_append, List.nil_append, reduceCtorEq, List.replicate_zero, List.replicate_succ, Nat.reduceAdd, Nat.reduceSub, decide_true, decide_false, intsOf_map', blsOf_map', strsOf_map', map_int_inj, map_str_inj, map_bool_inj, map_itD_inj, itD_iff, sh_int, sh_bool, sh_none, sh_itD, sh_nil, sh_ints, sh_its, eqv_int, eqv_bool, eqv_str, eqv_itD, eqv_ints, eqv_strs, eqv_its, eqv_nil, Nat.zero_le, and_assoc, Bool.false_and] at n ⊢
              exact n
            | true =>
              rw [hb] at n
              have hc : 0 < c := by
                simp at hb
                omega
              simp only [wVar, wOwn, wC, wOp, wT, wChain, wAndT, wOrT, wNotT, wAnd, wOr, wNot, wIf, wNil, wCons, wDisp, wCall, wCall0, wNoPart, wPart, wSl, wRevL, wBlt, wItL, wItT, wItS, wRg1, wRg2, wEnum, wZip, wLR, wLR2, wYes, wM1, wFmt, wJoined, wIsi, wNeg, wNewD, wOwnCat, wPar2, wNext, wSeq, wNever, wSet, wNew, wAug, wExtend, wAppend, wPut, wFrz, wRet, wRetOwn, wRetN, wDrop, wIfS, wgName, wgTup, wUnp, wRaise, bodyEN, wLc, wFor, wSortSet, e_add_i, e_add_s, e_add_l, e_add_t, e_kadd_i, e_kadd_s, e_kadd_l, e_kadd_t, e_sub, e_kt, e_mul_i, e_mul_l, e_kmul_i, e_kmul_l, e_div, e_kdiv, e_mod, e_kmod, e_cmp, e_eq, e_ne, e_keq, e_is_n, e_is_b, e_isn_n, e_isn_b, e_non_n, e_non_l, e_non_t, e_non_i, e_non_s, e_non_b, e_non_x, e_in_l, e_in_t, e_ni_l, e_ni_t, e_kin_l, e_kin_t, e_kin_s, e_ix_l, e_ix_t, e_ix_s, e_kix_l, e_kix_t, e_kix_s, e_sl_l, e_sl_t, e_sl_s, e_len_l, e_len_t, e_len_s, e_klen_l, e_klen_t, e_klen_s, e_kany, e_list_l, e_list_t, e_tup_l, e_tup_t, e_sum, e_max, e_max2, e_min, e_kne, e_kne2, e_all, e_str, e_kstr, e_int, e_kint, e_split, e_ksplit, e_part, e_kpart, e_join, e_kjoin, e_pys0, e_pys1, e_sa0, e_sa1, e_wipe0, e_wipe1, e_js0, e_js1, e_ty_i, e_ty_b, e_ty_n, e_ty_s, e_ty_l, e_ty_t, e_isi_ii, e_isi_ib, e_isi_in, e_isi_is, e_isi_il, e_isi_it, e_isi_bi, e_isi_bb, e_isi_bn, e_isi_bs, e_isi_bl, e_isi_bt, e_isi_li, e_isi_lb, e_isi_ln, e_isi_ls, e_isi_ll, e_isi_lt, e_isi_ti, e_isi_tb, e_isi_tn, e_isi_ts, e_isi_tl, e_isi_tt, e_isi_si, e_isi_sb, e_isi_sn, e_isi_ss, e_isi_sl, e_isi_st, e_up, e_st0, e_st1, e_st2, exists_eq_left, exists_eq_left', exists_eq_right, exists_eq_right', exists_eq', exists_eq, true_and, and_true, and_self, false_and, and_false, exists_and_left, exists_and_right, exists_const, Option.some.injEq, Option.map_some, Option.map_none, Sl.is.injEq, Sl.own.injEq, D.py.injEq, D.ex.injEq, D.rf.injEq, PyData.int.injEq, PyData.bool.injEq, PyData.str.injEq, PyData.list.injEq, PyData.tuple.injEq, List.cons.injEq, if_true, if_false, eq_self, Bool.false_eq_true, Bool.true_eq_false, Bool.not_true, Bool.not_false, Bool.not_not, List.getElem?_cons_zero, List.getElem?_cons_succ, List.set_cons_zero, List.set_cons_succ, List.length_cons, List.length_nil, List.cons_append, List.nil_append, reduceCtorEq, List.replicate_zero, List.replicate_succ, Nat.reduceAdd, Nat.reduceSub, decide_true, decide_false, intsOf_map', blsOf_map', strsOf_map', map_int_inj, map_str_inj, map_bool_inj, map_itD_inj, itD_iff, sh_int, sh_bool, sh_none, sh_itD, sh_nil, sh_ints, sh_its, eqv_int, eqv_bool, eqv_str, eqv_itD, eqv_ints, eqv_strs, eqv_its, eqv_nil, Nat.zero_le, and_assoc, Bool.true_and] at n ⊢
              by_cases hab : a = b
              · rw [if_pos hab] at n
                simp only [hab, wVar, wOwn, wC, wOp, wT, wChain, wAndT, wOrT, wNotT, wAnd, wOr, wNot, wIf, wNil, wCons, wDisp, wCall, wCall0, wNoPart, wPart, wSl, wRevL, wBlt, wItL, wItT, wItS, wRg1, wRg2, wEnum, wZip, wLR, wLR2, wYes, wM1, wFmt, wJoined, wIsi, wNeg, wNewD, wOwnCat, wPar2, wNext, wSeq, wNever, wSet, wNew, wAug, wExtend, wAppend, wPut, wFrz, wRet, wRetOwn, wRetN, wDrop, wIfS, wgName, wgTup, wUnp, wRaise, bodyEN, wLc, wFor, wSortSet, e_add_i, e_add_s, e_add_l, e_add_t, e_kadd_i, e_kadd_s, e_kadd_l, e_kadd_t, e_sub, e_kt, e_mul_i, e_mul_l, e_kmul_i, e_kmul_l, e_div, e_kdiv, e_mod, e_kmod, e_cmp, e_eq, e_ne, e_keq, e_is_n, e_is_b, e_isn_n, e_isn_b, e_non_n, e_non_l, e_non_t, e_non_i, e_non_s, e_non_b, e_non_x, e_in_l, e_in_t, e_ni_l, e_ni_t, e_kin_l, e_kin_t, e_kin_s, e_ix_l, e_ix_t, e_ix_s, e_kix_l, e_kix_t, e_kix_s, e_sl_l, e_sl_t, e_sl_s, e_len_l, e_len_t, e_len_s, e_klen_l, e_klen_t, e_klen_s, e_kany, e_list_l, e_list_t, e_tup_l, e_tup_t, e_sum, e_max, e_max2, e_min, e_kne, e_kne2, e_all, e_str, e_kstr, e_int, e_kint, e_split, e_ksplit, e_part, e_kpart, e_join, e_kjoin, e_pys0, e_pys1, e_sa0, e_sa1, e_wipe0, e_wipe1, e_js0, e_js1, e_ty_i, e_ty_b, e_ty_n, e_ty_s, e_ty_l, e_ty_t, e_isi_ii, e_isi_ib, e_isi_in, e_isi_is, e_isi_il, e_isi_it, e_isi_bi, e_isi_bb, e_isi_bn, e_isi_bs, e_isi_bl, e_isi_bt, e_isi_li, e_isi_lb, e_isi_ln, e_isi_ls, e_isi_ll, e_isi_lt, e_isi_ti, e_isi_tb, e_isi_tn, e_isi_ts, e_isi_tl, e_isi_tt, e_isi_si, e_isi_sb, e_isi_sn, e_isi_ss, e_isi_sl, e_isi_st, e_up, e_st0, e_st1, e_st2, exists_eq_left, exists_eq_left', exists_eq_right, exists_eq_right', exists_eq', exists_eq, true_and, and_true, and_self, false_and, and_false, exists_and_left, exists_and_right, exists_const, Option.some.injEq, Option.map_some, Option.map_none, Sl.is.injEq, Sl.own.injEq, D.py.injEq, D.ex.injEq, D.rf.injEq, PyData.int.injEq, PyData.bool.injEq, PyData.str.injEq, PyData.list.injEq, PyData.tuple.injEq, List.cons.injEq, if_true, if_false, eq_self, Bool.false_eq_true, Bool.true_eq_false, Bool.not_true, Bool.not_false, Bool.not_not, List.getElem?_cons_zero, List.getElem?_cons_succ, List.set_cons_zero, List.set_cons_succ, List.length_cons, List.length_nil, List.cons_append, List.nil_append, reduceCtorEq, List.replicate_zero, List.replicate_succ, Nat.reduceAdd, Nat.reduceSub, decide_true, decide_false, intsOf_map', blsOf_map', strsOf_map', map_int_inj, map_str_inj, map_bool_inj, map_itD_inj, itD_iff, sh_int, sh_bool, sh_none, sh_itD, sh_nil, sh_ints, sh_its, eqv_int, eqv_bool, eqv_str, eqv_itD, eqv_ints, eqv_strs, eqv_its, eqv_nil, Nat.zero_le, and_assoc]
                exact n
              · rw [if_neg hab] at n
                simp only [hab, wVar, wOwn, wC, wOp, wT, wChain, wAndT, wOrT, wNotT, wAnd, wOr, wNot, wIf, wNil, wCons, wDisp, wCall, wCall0, wNoPart, wPart, wSl, wRevL, wBlt, wItL, wItT, wItS, wRg1, wRg2, wEnum, wZip, wLR, wLR2, wYes, wM1, wFmt, wJoined, wIsi, wNeg, wNewD, wOwnCat, wPar2, wNext, wSeq, wNever, wSet, wNew, wAug, wExtend, wAppend, wPut, wFrz, wRet, wRetOwn, wRetN, wDrop, wIfS, wgName, wgTup, wUnp, wRaise, bodyEN, wLc, wFor, wSortSet, e_add_i, e_add_s, e_add_l, e_add_t, e_kadd_i, e_kadd_s, e_kadd_l, e_kadd_t, e_sub, e_kt, e_mul_i, e_mul_l, e_kmul_i, e_kmul_l, e_div, e_kdiv, e_mod, e_kmod, e_cmp, e_eq, e_ne, e_keq, e_is_n, e_is_b, e_isn_n, e_isn_b, e_non_n, e_non_l, e_non_t, e_non_i, e_non_s, e_non_b, e_non_x, e_in_l, e_in_t, e_ni_l, e_ni_t, e_kin_l, e_kin_t, e_kin_s, e_ix_l, e_ix_t, e_ix_s, e_kix_l, e_kix_t, e_kix_s, e_sl_l, e_sl_t, e_sl_s, e_len_l, e_len_t, e_len_s, e_klen_l, e_klen_t, e_klen_s, e_kany, e_list_l, e_list_t, e_tup_l, e_tup_t, e_sum, e_max, e_max2, e_min, e_kne, e_kne2, e_all, e_str, e_kstr, e_int, e_kint, e_split, e_ksplit, e_part, e_kpart, e_join, e_kjoin, e_pys0, e_pys1, e_sa0, e_sa1, e_wipe0, e_wipe1, e_js0, e_js1, e_ty_i, e_ty_b, e_ty_n, e_ty_s, e_ty_l, e_ty_t, e_isi_ii, e_isi_ib, e_isi_in, e_isi_is, e_isi_il, e_isi_it, e_isi_bi, e_isi_bb, e_isi_bn, e_isi_bs, e_isi_bl, e_isi_bt, e_isi_li, e_isi_lb, e_isi_ln, e_isi_ls, e_isi_ll, e_isi_lt, e_isi_ti, e_isi_tb, e_isi_tn, e_isi_ts, e_isi_tl, e_isi_tt, e_isi_si, e_isi_sb, e_isi_sn, e_isi_ss, e_isi_sl, e_isi_st, e_up, e_st0, e_st1, e_st2, exists_eq_left, exists_eq_left', exists_eq_right, exists_eq_right', exists_eq', exists_eq, true_and, and_true, and_self, false_and, and_false, exists_and_left, exists_and_right, exists_const, Option.some.injEq, Option.map_some, Option.map_none, Sl.is.injEq, Sl.own.injEq, D.py.injEq, D.ex.injEq, D.rf.injEq, PyData.int.injEq, PyData.bool.injEq, PyData.str.injEq, PyData.list.injEq, PyData.tuple.injEq, List.cons.injEq, if_true, if_false, eq_self, Bool.false_eq_true, Bool.true_eq_false, Bool.not_true, Bool.not_false, Bool.not_not, List.getElem?_cons_zero, List.getElem?_cons_succ, List.set_cons_zero, List.set_cons_succ, List.length_cons, List.length_nil, List.cons_append, List.nil_append, reduceCtorEq, List.replicate_zero, List.replicate_succ, Nat.reduceAdd, Nat.reduceSub, decide_true, decide_false, intsOf_map', blsOf_map', strsOf_map', map_int_inj, map_str_inj, map_bool_inj, map_itD_inj, itD_iff, sh_int, sh_bool, sh_none, sh_itD, sh_nil, sh_ints, sh_its, eqv_int, eqv_bool, eqv_str, eqv_itD, eqv_ints, eqv_strs, eqv_its, eqv_nil, Nat.zero_le, and_assoc]
                cases hlt : decide (a < b) with
                | false =>
                  rw [hlt] at n
                  simp only [wVar, wOwn, wC, wOp, wT, wChain, wAndT, wOrT, wNotT, wAnd, wOr, wNot, wIf, wNil, wCons, wDisp, wCall, wCall0, wNoPart, wPart, wSl, wRevL, wBlt, wItL, wItT, wItS, wRg1, wRg2, wEnum, wZip, wLR, wLR2, wYes, wM1, wFmt, wJoined, wIsi, wNeg, wNewD, wOwnCat, wPar2, wNext, wSeq, wNever, wSet, wNew, wAug, wExtend, wAppend, wPut, wFrz, wRet, wRetOwn, wRetN, wDrop, wIfS, wgName, wgTup, wUnp, wRaise, bodyEN, wLc, wFor, wSortSet, e_add_i, e_add_s, e_add_l, e_add_t, e_kadd_i, e_kadd_s, e_kadd_l, e_kadd_t, e_sub, e_kt, e_mul_i, e_mul_l, e_kmul_i, e_kmul_l, e_div, e_kdiv, e_mod, e_kmod, e_cmp, e_eq, e_ne, e_keq, e_is_n, e_is_b, e_isn_n, e_isn_b, e_non_n, e_non_l, e_non_t, e_non_i, e_non_s, e_non_b, e_non_x, e_in_l, e_in_t, e_ni_l, e_ni_t, e_kin_l, e_kin_t, e_kin_s, e_ix_l, e_ix_t, e_ix_s, e_kix_l, e_kix_t, e_kix_s, e_sl_l, e_sl_t, e_sl_s, e_len_l, e_len_t, e_len_s, e_klen_l, e_klen_t, e_klen_s, e_kany, e_list_l, e_list_t, e_tup_l, e_tup_t, e_sum, e_max, e_max2, e_min, e_kne, e_kne2, e_all, e_str, e_kstr, e_int, e_kint, e_split, e_ksplit, e_part, e_kpart, e_join, e_kjoin, e_pys0, e_pys1, e_sa0, e_sa1, e_wipe0, e_wipe1, e_js0, e_js1, e_ty_i, e_ty_b, e_ty_n, e_ty_s, e_ty_l, e_ty_t, e_isi_ii, e_isi_ib, e_isi_in, e_isi_is, e_isi_il, e_isi_it, e_isi_bi, e_isi_bb, e_isi_bn, e_isi_bs, e_isi_bl, e_isi_bt, e_isi_li, e_isi_lb, e_isi_ln, e_isi_ls, e_isi_ll, e_isi_lt, e_isi_ti, e_isi_tb, e_isi_tn, e_isi_ts, e_isi_tl, e_isi_tt, e_isi_si, e_isi_sb, e_isi_sn, e_isi_ss, e_isi_sl, e_isi_st, e_up, e_st0, e_st1, e_st2, exists_eq_left, exists_eq_left', exists_eq_right, exists_eq_right', exists_eq', exists_eq, true_and, and_true, and_self, false_and, and_false, exists_and_left, exists_and_right, exists_const, Option.some.injEq, Option.map_some, Option.map_none, Sl.is.injEq, Sl.own.injEq, D.py.injEq, D.ex.injEq, D.rf.injEq, PyData.int.injEq, PyData.bool.injEq, PyData.str.injEq, PyData.list.injEq, PyData.tuple.injEq, List.cons.injEq, if_true, if_false, eq_self, Bool.false_eq_true, Bool.true_eq_false, Bool.not_true, Bool.not_false, Bool.not_not, List.getElem?_cons_zero, List.getElem?_cons_succ, List.set_cons_zero, List.set_cons_succ, List.length_cons, List.length_nil, List.cons_append, List.nil_append, reduceCtorEq, List.replicate_zero, List.replicate_succ, Nat.reduceAdd, Nat.reduceSub, decide_true, decide_false, intsOf_map', blsOf_map', strsOf_map', map_int_inj, map_str_inj, map_bool_inj, map_itD_inj, itD_iff, sh_int, sh_bool, sh_none, sh_itD, sh_nil, sh_ints, sh_its, eqv_int, eqv_bool, eqv_str, eqv_itD, eqv_ints, eqv_strs, eqv_its, eqv_nil, Nat.zero_le, and_assoc, Bool.false_and] at n ⊢
                  exact n
                | true =>
                  rw [hlt] at n
                  simp only [wVar, wOwn, wC, wOp, wT, wChain, wAndT, wOrT, wNotT, wAnd, wOr, wNot, wIf, wNil, wCons, wDisp, wCall, wCall0, wNoPart, wPart, wSl, wRevL, wBlt, wItL, wItT, wItS, wRg1, wRg2, wEnum, wZip, wLR, wLR2, wYes, wM1, wFmt, wJoined, wIsi, wNeg, wNewD, wOwnCat, wPar2, wNext, wSeq, wNever, wSet, wNew, wAug, wExtend, wAppend, wPut, wFrz, wRet, wRetOwn, wRetN, wDrop, wIfS, wgName, wgTup, wUnp, wRaise, bodyEN, wLc, wFor, wSortSet, e_add_i, e_add_s, e_add_l, e_add_t, e_kadd_i, e_kadd_s, e_kadd_l, e_kadd_t, e_sub, e_kt, e_mul_i, e_mul_l, e_kmul_i, e_kmul_l, e_div, e_kdiv, e_mod, e_kmod, e_cmp, e_eq, e_ne, e_keq, e_is_n, e_is_b, e_isn_n, e_isn_b, e_non_n, e_non_l, e_non_t, e_non_i, e_non_s, e_non_b, e_non_x, e_in_l, e_in_t, e_ni_l, e_ni_t, e_kin_l, e_kin_t, e_kin_s, e_ix_l, e_ix_t, e_ix_s, e_kix_l, e_kix_t, e_kix_s, e_sl_l, e_sl_t, e_sl_s, e_len_l, e_len_t, e_len_s, e_klen_l, e_klen_t, e_klen_s, e_kany, e_list_l, e_list_t, e_tup_l, e_tup_t, e_sum, e_max, e_max2, e_min, e_kne, e_kne2, e_all, e_str, e_kstr, e_int, e_kint, e_split, e_ksplit, e_part, e_kpart, e_join, e_kjoin, e_pys0, e_pys1, e_sa0, e_sa1, e_wipe0, e_wipe1, e_js0, e_js1, e_ty_i, e_ty_b, e_ty_n, e_ty_s, e_ty_l, e_ty_t, e_isi_ii, e_isi_ib, e_isi_in, e_isi_is, e_isi_il, e_isi_it, e_isi_bi, e_isi_bb, e_isi_bn, e_isi_bs, e_isi_bl, e_isi_bt, e_isi_li, e_isi_lb, e_isi_ln, e_isi_ls, e_isi_ll, e_isi_lt, e_isi_ti, e_isi_tb, e_isi_tn, e_isi_ts, e_isi_tl, e_isi_tt, e_isi_si, e_isi_sb, e_isi_sn, e_isi_ss, e_isi_sl, e_isi_st, e_up, e_st0, e_st1, e_st2, exists_eq_left, exists_eq_left', exists_eq_right, exists_eq_right', exists_eq', exists_eq, true_and, and_true, and_self, false_and, and_false, exists_and_left, exists_and_right, exists_const, Option.some.injEq, Option.map_some, Option.map_none, Sl.is.injEq, Sl.own.injEq, D.py.injEq, D.ex.injEq, D.rf.injEq, PyData.int.injEq, PyData.bool.injEq, PyData.str.injEq, PyData.list.injEq, PyData.tuple.injEq, List.cons.injEq, if_true, if_false, eq_self, Bool.false_eq_true, Bool.true_eq_false, Bool.not_true, Bool.not_false, Bool.not_not, List.getElem?_cons_zero, List.getElem?_cons_succ, List.set_cons_zero, List.set_cons_succ, List.length_cons, List.length_nil, List.cons_append, List.nil_append, reduceCtorEq, List.replicate_zero, List.replicate_succ, Nat.reduceAdd, Nat.reduceSub, decide_true, decide_false, intsOf_map', blsOf_map', strsOf_map', map_int_inj, map_str_inj, map_bool_inj, map_itD_inj, itD_iff, sh_int, sh_bool, sh_none, sh_itD, sh_nil, sh_ints, sh_its, eqv_int, eqv_bool, eqv_str, eqv_itD, eqv_ints, eqv_strs, eqv_its, eqv_nil, Nat.zero_le, and_assoc, Bool.true_and] at n ⊢
                  exact ⟨hc, n⟩
    · have e : decide (((ds.length : Nat) : Int) = 3) = false := decide_eq_false (by omega)
      simp only [wVar, wOwn, wC, wOp, wT, wChain, wAndT, wOrT, wNotT, wAnd, wOr, wNot, wIf, wNil, wCons, wDisp, wCall, wCall0, wNoPart, wPart, wSl, wRevL, wBlt, wItL, wItT, wItS, wRg1, wRg2, wEnum, wZip, wLR, wLR2, wYes, wM1, wFmt, wJoined, wIsi, wNeg, wNewD, wOwnCat, wPar2, wNext, wSeq, wNever, wSet, wNew, wAug, wExtend, wAppend, wPut, wFrz, wRet, wRetOwn, wRetN, wDrop, wIfS, wgName, wgTup, wUnp, wRaise, bodyEN, wLc, wFor, wSortSet, e_add_i, e_add_s, e_add_l, e_add_t, e_kadd_i, e_kadd_s, e_kadd_l, e_kadd_t, e_sub, e_kt, e_mul_i, e_mul_l, e_kmul_i, e_kmul_l, e_div, e_kdiv, e_mod, e_kmod, e_cmp, e_eq, e_ne, e_keq, e_is_n, e_is_b, e_isn_n, e_isn_b, e_non_n, e_non_l, e_non_t, e_non_i, e_non_s, e_non_b, e_non_x, e_in_l, e_in_t, e_ni_l, e_ni_t, e_kin_l, e_kin_t, e_kin_s, e_ix_l, e_ix_t, e_ix_s, e_kix_l, e_kix_t, e_kix_s, e_sl_l, e_sl_t, e_sl_s, e_len_l, e_len_t, e_len_s, e_klen_l, e_klen_t, e_klen_s, e_kany, e_list_l, e_list_t, e_tup_l, e_tup_t, e_sum, e_max, e_max2, e_min, e_kne, e_kne2, e_all, e_str, e_kstr, e_int, e_kint, e_split, e_ksplit, e_part, e_kpart, e_join, e_kjoin, e_pys0, e_pys1, e_sa0, e_sa1, e_wipe0, e_wipe1, e_js0, e_js1, e_ty_i, e_ty_b, e_ty_n, e_ty_s, e_ty_l, e_ty_t, e_isi_ii, e_isi_ib, e_isi_in, e_isi_is, e_isi_il, e_isi_it, e_isi_bi, e_isi_bb, e_isi_bn, e_isi_bs, e_isi_bl, e_isi_bt, e_isi_li, e_isi_lb, e_isi_ln, e_isi_ls, e_isi_ll, e_isi_lt, e_isi_ti, e_isi_tb, e_isi_tn, e_isi_ts, e_isi_tl, e_isi_tt, e_isi_si, e_isi_sb, e_isi_sn, e_isi_ss, e_isi_sl, e_isi_st, e_up, e_st0, e_st1, e_st2, exists_eq_left, exists_eq_left', exists_eq_right, exists_eq_right', exists_eq', exists_eq, true_and, and_true, and_self, false_and, and_false, exists_and_left, exists_and_right, exists_const, Option.some.injEq, Option.map_some, Option.map_none, Sl.is.injEq, Sl.own.injEq, D.py.injEq, D.ex.injEq, D.rf.injEq, PyData.int.injEq, PyData.bool.injEq, PyData.str.injEq, PyData.list.injEq, PyData.tuple.injEq, List.cons.injEq, if_true, if_false, eq_self, Bool.false_eq_true, Bool.true_eq_false, Bool.not_true, Bool.not_false, Bool.not_not, List.getElem?_cons_zero, List.getElem?_cons_succ, List.set_cons_zero, List.set_cons_succ, List.length_cons, List.length_nil, List.cons_append, List.nil_append, reduceCtorEq, List.replicate_zero, List.replicate_succ, Nat.reduceAdd, Nat.reduceSub, decide_true, decide_false, intsOf_map', blsOf_map', strsOf_map', map_int_inj, map_str_inj, map_bool_inj, map_itD_inj, itD_iff, sh_int, sh_bool, sh_none, sh_itD, sh_nil, sh_ints, sh_its, eqv_int, eqv_bool, eqv_str, eqv_itD, eqv_ints, eqv_strs, eqv_its, eqv_nil, Nat.zero_le, and_assoc, e]
      have e2 : isItemD (.tuple ds) = false := by
        unfold isItemD
        split
        · rename_i e
          cases e
          exact absurd rfl hl
        · rfl
      rw [e2] at n
      exact n
  | _ =>
    simp only [w_is_item, wVar, wOwn, wC, wOp, wT, wChain, wAndT, wOrT, wNotT, wAnd, wOr, wNot, wIf, wNil, wCons, wDisp, wCall, wCall0, wNoPart, wPart, wSl, wRevL, wBlt, wItL, wItT, wItS, wRg1, wRg2, wEnum, wZip, wLR, wLR2, wYes, wM1, wFmt, wJoined, wIsi, wNeg, wNewD, wOwnCat, wPar2, wNext, wSeq, wNever, wSet, wNew, wAug, wExtend, wAppend, wPut, wFrz, wRet, wRetOwn, wRetN, wDrop, wIfS, wgName, wgTup, wUnp, wRaise, bodyEN, wLc, wFor, wSortSet, e_add_i, e_add_s, e_add_l, e_add_t, e_kadd_i, e_kadd_s, e_kadd_l, e_kadd_t, e_sub, e_kt, e_mul_i, e_mul_l, e_kmul_i, e_kmul_l, e_div, e_kdiv, e_mod, e_kmod, e_cmp, e_eq, e_ne, e_keq, e_is_n, e_is_b, e_isn_n, e_isn_b, e_non_n, e_non_l, e_non_t, e_non_i, e_non_s, e_non_b, e_non_x, e_in_l, e_in_t, e_ni_l, e_ni_t, e_kin_l, e_kin_t, e_kin_s, e_ix_l, e_ix_t, e_ix_s, e_kix_l, e_kix_t, e_kix_s, e_sl_l, e_sl_t, e_sl_s, e_len_l, e_len_t, e_len_s, e_klen_l, e_klen_t, e_klen_s, e_kany, e_list_l, e_list_t, e_tup_l, e_tup_t, e_sum, e_max, e_max2, e_min, e_kne, e_kne2, e_all, e_str, e_kstr, e_int, e_kint, e_split, e_ksplit, e_part, e_kpart, e_join, e_kjoin, e_pys0, e_pys1, e_sa0, e_sa1, e_wipe0, e_wipe1, e_js0, e_js1, e_ty_i, e_ty_b, e_ty_n, e_ty_s, e_ty_l, e_ty_t, e_isi_ii, e_isi_ib, e_isi_in, e_isi_is, e_isi_il, e_isi_it, e_isi_bi, e_isi_bb, e_isi_bn, e_isi_bs, e_isi_bl, e_isi_bt, e_isi_li, e_isi_lb, e_isi_ln, e_isi_ls, e_isi_ll, e_isi_lt, e_isi_ti, e_isi_tb, e_isi_tn, e_isi_ts, e_isi_tl, e_isi_tt, e_isi_si, e_isi_sb, e_isi_sn, e_isi_ss, e_isi_sl, e_isi_st, e_up, e_st0, e_st1, e_st2, exists_eq_left, exists_eq_left', exists_eq_right, exists_eq_right', exists_eq', exists_eq, true_and, and_true, and_self, false_and, and_false, exists_and_left, exists_and_right, exists_const, Option.some.injEq, Option.map_some, Option.map_none, Sl.is.injEq, Sl.own.injEq, D.py.injEq, D.ex.injEq, D.rf.injEq, PyData.int.injEq, PyData.bool.injEq, PyData.str.injEq, PyData.list.injEq, PyData.tuple.injEq, List.cons.injEq, if_true, if_false, eq_self, Bool.false_eq_true, Bool.true_eq_false, Bool.not_true, Bool.not_false, Bool.not_not, List.getElem?_cons_zero, List.getElem?_cons_succ, List.set_cons_zero, List.set_cons_succ, List.length_cons, List.length_nil, List.cons_append, List.nil_append, reduceCtorEq, List.replicate_zero, List.replicate_succ, Nat.reduceAdd, Nat.reduceSub, decide_true, decide_false, intsOf_map', blsOf_map', strsOf_map', map_int_inj, map_str_inj, map_bool_inj, map_itD_inj, itD_iff, sh_int, sh_bool, sh_none, sh_itD, sh_nil, sh_ints, sh_its, eqv_int, eqv_bool, eqv_str, eqv_itD, eqv_ints, eqv_strs, eqv_its, eqv_nil, Nat.zero_le, and_assoc]
    exact n
end RT
end
section
set_option Elab.async false
set_option linter.all false
set_option maxRecDepth 100000
set_option maxHeartbeats 4000000
namespace RT
open PySem PySem.Spec PyProof.Rows L2
/-! ### texts -/
def TOk (z : Str) : Prop := PyData.strOk z = true ∧ z.length ≤ 1000000
theorem strOk_iff {z : Str} : PyData.strOk z = true ↔ ∀ c ∈ TL.tl z, c < 0x110000 := by
  unfold PyData.strOk
  rw [← Array.all_toList, List.all_eq_true]
  exact ⟨fun h c hc => of_decide_eq_true (h c hc), fun h c hc => decide_eq_true (h c hc)⟩
theorem strOk_app {a b : Str} : PyData.strOk (a ++ b) = true ↔ PyData.strOk a = true ∧ PyData.strOk b = true := by
  rw [strOk_iff, strOk_iff, strOk_iff, TL.tl_append]
  simp only [List.mem_append]
  exact ⟨fun h => ⟨fun c hc => h c (.inl hc), fun c hc => h c (.inr hc)⟩, fun h c hc => hc.elim (h.1 c) (h.2 c)⟩
theorem TOk.app {a b : Str} (h : TOk (a ++ b)) : TOk a ∧ TOk b := by
  obtain ⟨h1, h2⟩ := h
  rw [PySem.Str.length_append] at h2
  obtain ⟨h3, h4⟩ := strOk_app.mp h1
  exact ⟨⟨h3, by omega⟩, ⟨h4, by omega⟩⟩
theorem TOk.part {z : Str} (y : Str) (h : TOk z) : TOk (Txt.partition z y).1 ∧ TOk (Txt.partition z y).2.1 ∧ TOk (Txt.partition z y).2.2 := by
  have e := PySem.StrLaws.partition_sum z y
  rw [← e] at h
  obtain ⟨h1, h2⟩ := h.app
  obtain ⟨h3, h4⟩ := h1.app
  exact ⟨h3, h4, h2⟩
theorem TOk.sh {z : Str} (h : TOk z) : SeqAt.shaped (.str z) = true := sh_str h.1
/-! ### items -/
def itemsAll : List Itm := ten.flatMap fun a => (a, a, 1) :: (ten.filter fun b => decide (a < b)).flatMap fun b => (ten.filter fun c => decide ((b - a) % c = 0)).map fun c => (a, b, c)
abbrev iStr (i : Int) : Str := Str.ofString (toString i)
def textOf (q : Itm) : Str :=
  if q.1 = q.2.1 then iStr q.1 else if q.2.2 = 1 then ((Str.empty ++ iStr q.1) ++ "-") ++ iStr q.2.1 else ((((Str.empty ++ iStr q.1) ++ "-") ++ iStr q.2.1) ++ "/") ++ iStr q.2.2
def numbersOf (q : Itm) : List Int := ten.filter fun n => decide (q.1 ≤ n) && decide (n ≤ q.2.1) && decide ((n - q.1) % q.2.2 = 0)
theorem ten_of {a : Int} (h : 1 ≤ a ∧ a ≤ 10) : a ∈ ten := by
  simp
  omega
theorem ten_iff {a : Int} : a ∈ ten ↔ 1 ≤ a ∧ a ≤ 10 := by
  simp
  omega
theorem all_triples : ∀ a ∈ ten, ∀ b ∈ ten, ∀ c ∈ ten, itemOk (a, b, c) = decide ((a, b, c) ∈ itemsAll) := by decide +kernel
theorem item_mem {q : Itm} : itemOk q = true ↔ q ∈ itemsAll := by
  constructor
  · intro h
    obtain ⟨a, b, c⟩ := q
    have h' := h
    simp only [itemOk, Bool.and_eq_true, decide_eq_true_eq] at h'
    have := all_triples a (ten_of (by omega)) b (ten_of (by omega)) c (ten_of (by omega))
    rw [h] at this
    exact of_decide_eq_true this.symm
  · intro h
    have : ∀ q ∈ itemsAll, itemOk q = true := by decide +kernel
    exact this q h
theorem rg_items : ∀ q ∈ itemsAll, (q.2.2 ≠ 0 ∧ q.2.2.natAbs < 1073741824 ∧ Builtin.Range.small q.1 (q.2.1 + 1) q.2.2 = true ∧ Builtin.Range.rangeSize q.1 (q.2.1 + 1) q.2.2 = (numbersOf q).length) ∧ rgC q.1 q.2.2 (numbersOf q).length = numbersOf q ∧ (numbersOf q).length ≤ 10 := by decide +kernel
theorem atI_zero {α : Type} (x : α) (xs : List α) : atI (x :: xs) 0 = some x := by
  unfold atI ixN
  rw [if_pos (Int.le_refl 0), if_pos (by simp)]
  rfl
theorem atI_3 {α : Type} (x y z : α) : atI [x, y, z] 0 = some x ∧ atI [x, y, z] 1 = some y ∧ atI [x, y, z] 2 = some z := ⟨rfl, rfl, rfl⟩
def sp_numbers_of : Spec0 := fun ds N _ => ∃ q : Itm, ds = [.py (itD q)] ∧ itemOk q = true ∧ N (.py (.list ((numbersOf q).map .int)))
def w_numbers_of : WS Unit :=
  wRet (wLR (wCons (wOp fIx kIx (wVar 0) (wC (.int 0))) (wCons (wOp fAdd kAdd (wOp fIx kIx (wVar 0) (wC (.int 1))) (wC (.int 1))) (wCons (wOp fIx kIx (wVar 0) (wC (.int 2))) (wNil)))))
theorem law_numbers_of : ∀ ds θ N Nx, sp_numbers_of.up ds θ N Nx → w_numbers_of (bodyEN N Nx) (startD 1 ds) θ := by
  rintro ds θ N Nx ⟨q, rfl, ok, n⟩
  obtain ⟨h1, h2, h3⟩ := rg_items q (item_mem.mp ok)
  simp only [w_numbers_of, wVar, wOwn, wC, wOp, wT, wChain, wAndT, wOrT, wNotT, wAnd, wOr, wNot, wIf, wNil, wCons, wDisp, wCall, wCall0, wNoPart, wPart, wSl, wRevL, wBlt, wItL, wItT, wItS, wRg1, wRg2, wEnum, wZip, wLR, wLR2, wYes, wM1, wFmt, wJoined, wIsi, wNeg, wNewD, wOwnCat, wPar2, wNext, wSeq, wNever, wSet, wNew, wAug, wExtend, wAppend, wPut, wFrz, wRet, wRetOwn, wRetN, wDrop, wIfS, wgName, wgTup, wUnp, wRaise, bodyEN, wLc, wFor, wSortSet, e_add_i, e_add_s, e_add_l, e_add_t, e_kadd_i, e_kadd_s, e_kadd_l, e_kadd_t, e_sub, e_kt, e_mul_i, e_mul_l, e_kmul_i, e_kmul_l, e_div, e_kdiv, e_mod, e_kmod, e_cmp, e_eq, e_ne, e_keq, e_is_n, e_is_b, e_isn_n, e_isn_b, e_non_n, e_non_l, e_non_t, e_non_i, e_non_s, e_non_b, e_non_x, e_in_l, e_in_t, e_ni_l, e_ni_t, e_kin_l, e_kin_t, e_kin_s, e_ix_l, e_ix_t, e_ix_s, e_kix_l, e_kix_t, e_kix_s, e_sl_l, e_sl_t, e_sl_s, e_len_l, e_len_t, e_len_s, e_klen_l, e_klen_t, e_klen_s, e_kany, e_list_l, e_list_t, e_tup_l, e_tup_t, e_sum, e_max, e_max2, e_min, e_kne, e_kne2, e_all, e_str, e_kstr, e_int, e_kint, e_split, e_ksplit, e_part, e_kpart, e_join, e_kjoin, e_pys0, e_pys1, e_sa0, e_sa1, e_wipe0, e_wipe1, e_js0, e_js1, e_ty_i, e_ty_b, e_ty_n, e_ty_s, e_ty_l, e_ty_t, e_isi_ii, e_isi_ib, e_isi_in, e_isi_is, e_isi_il, e_isi_it, e_isi_bi, e_isi_bb, e_isi_bn, e_isi_bs, e_isi_bl, e_isi_bt, e_isi_li, e_isi_lb, e_isi_ln, e_isi_ls, e_isi_ll, e_isi_lt, e_isi_ti, e_isi_tb, e_isi_tn, e_isi_ts, e_isi_tl, e_isi_tt, e_isi_si, e_isi_sb, e_isi_sn, e_isi_ss, e_isi_sl, e_isi_st, e_up, e_st0, e_st1, e_st2, exists_eq_left, exists_eq_left', exists_eq_right, exists_eq_right', exists_eq', exists_eq, true_and, and_true, and_self, false_and, and_false, exists_and_left, exists_and_right, exists_const, Option.some.injEq, Option.map_some, Option.map_none, Sl.is.injEq, Sl.own.injEq, D.py.injEq, D.ex.injEq, D.rf.injEq, PyData.int.injEq, PyData.bool.injEq, PyData.str.injEq, PyData.list.injEq, PyData.tuple.injEq, List.cons.injEq, if_true, if_false, eq_self, Bool.false_eq_true, Bool.true_eq_false, Bool.not_true, Bool.not_false, Bool.not_not, List.getElem?_cons_zero, List.getElem?_cons_succ, List.set_cons_zero, List.set_cons_succ, List.length_cons, List.length_nil, List.cons_append, List.nil_append, reduceCtorEq, List.replicate_zero, List.replicate_succ, Nat.reduceAdd, Nat.reduceSub, decide_true, decide_false, intsOf_map', blsOf_map', strsOf_map', map_int_inj, map_str_inj, map_bool_inj, map_itD_inj, itD_iff, sh_int, sh_bool, sh_none, sh_itD, sh_nil, sh_ints, sh_its, eqv_int, eqv_bool, eqv_str, eqv_itD, eqv_ints, eqv_strs, eqv_its, eqv_nil, Nat.zero_le, and_assoc, (atI_3 _ _ _).1, (atI_3 _ _ _).2.1, (atI_3 _ _ _).2.2]
  refine ⟨(numbersOf q).length, h1, by omega, ?_⟩
  rw [h2]
  exact n
def sp_text_of : Spec0 := fun ds N _ => ∃ q : Itm, ds = [.py (itD q)] ∧ itemOk q = true ∧ N (.py (.str (textOf q)))
def w_text_of : WS Unit :=
  wSeq (wUnp [1, 2, 3] (wVar 0)) (wSeq (wIfS (wT (wOp fEq kEq (wVar 1) (wVar 2))) (wRet (wBlt fStr kStr (wCons (wVar 1) (wNil)))) (wNext)) (wRet (wIf (wT (wOp fEq kEq (wVar 3) (wC (.int 1)))) (wJoined [wFmt (wVar 1), wC (.str "-"), wFmt (wVar 2)]) (wJoined [wFmt (wVar 1), wC (.str "-"), wFmt (wVar 2), wC (.str "/"), wFmt (wVar 3)]))))
theorem log2_ten : ∀ i ∈ ten, i.natAbs.log2 < 1920 ∧ (Str.ofString (toString i)).length ≤ 2 := by decide +kernel
theorem item_ten {q : Itm} (h : itemOk q = true) : q.1 ∈ ten ∧ q.2.1 ∈ ten ∧ q.2.2 ∈ ten := by
  simp only [itemOk, Bool.and_eq_true, decide_eq_true_eq] at h
  exact ⟨ten_of (by omega), ten_of (by omega), ten_of (by omega)⟩
theorem law_text_of : ∀ ds θ N Nx, sp_text_of.up ds θ N Nx → w_text_of (bodyEN N Nx) (startD 4 ds) θ := by
  rintro ds θ N Nx ⟨q, rfl, ok, n⟩
  obtain ⟨t1, t2, t3⟩ := item_ten ok
  obtain ⟨a1, a2⟩ := log2_ten _ t1
  obtain ⟨b1, b2⟩ := log2_ten _ t2
  obtain ⟨c1, c2⟩ := log2_ten _ t3
  have el : Str.empty.length = 0 := rfl
  have hd : (("-" : Str).length) = 1 := by decide +kernel
  have hs : (("/" : Str).length) = 1 := by decide +kernel
  have hb : ∀ {n : Nat}, n ≤ 20 → n ≤ sizeLine := fun h => le_line (by omega)
  simp only [w_text_of, wVar, wOwn, wC, wOp, wT, wChain, wAndT, wOrT, wNotT, wAnd, wOr, wNot, wIf, wNil, wCons, wDisp, wCall, wCall0, wNoPart, wPart, wSl, wRevL, wBlt, wItL, wItT, wItS, wRg1, wRg2, wEnum, wZip, wLR, wLR2, wYes, wM1, wFmt, wJoined, wIsi, wNeg, wNewD, wOwnCat, wPar2, wNext, wSeq, wNever, wSet, wNew, wAug, wExtend, wAppend, wPut, wFrz, wRet, wRetOwn, wRetN, wDrop, wIfS, wgName, wgTup, wUnp, wRaise, bodyEN, wLc, wFor, wSortSet, e_add_i, e_add_s, e_add_l, e_add_t, e_kadd_i, e_kadd_s, e_kadd_l, e_kadd_t, e_sub, e_kt, e_mul_i, e_mul_l, e_kmul_i, e_kmul_l, e_div, e_kdiv, e_mod, e_kmod, e_cmp, e_eq, e_ne, e_keq, e_is_n, e_is_b, e_isn_n, e_isn_b, e_non_n, e_non_l, e_non_t, e_non_i, e_non_s, e_non_b, e_non_x, e_in_l, e_in_t, e_ni_l, e_ni_t, e_kin_l, e_kin_t, e_kin_s, e_ix_l, e_ix_t, e_ix_s, e_kix_l, e_kix_t, e_kix_s, e_sl_l, e_sl_t, e_sl_s, e_len_l, e_len_t, e_len_s, e_klen_l, e_klen_t, e_klen_s, e_kany, e_list_l, e_list_t, e_tup_l, e_tup_t, e_sum, e_max, e_max2, e_min, e_kne, e_kne2, e_all, e_str, e_kstr, e_int, e_kint, e_split, e_ksplit, e_part, e_kpart, e_join, e_kjoin, e_pys0, e_pys1, e_sa0, e_sa1, e_wipe0, e_wipe1, e_js0, e_js1, e_ty_i, e_ty_b, e_ty_n, e_ty_s, e_ty_l, e_ty_t, e_isi_ii, e_isi_ib, e_isi_in, e_isi_is, e_isi_il, e_isi_it, e_isi_bi, e_isi_bb, e_isi_bn, e_isi_bs, e_isi_bl, e_isi_bt, e_isi_li, e_isi_lb, e_isi_ln, e_isi_ls, e_isi_ll, e_isi_lt, e_isi_ti, e_isi_tb, e_isi_tn, e_isi_ts, e_isi_tl, e_isi_tt, e_isi_si, e_isi_sb, e_isi_sn, e_isi_ss, e_isi_sl, e_isi_st, e_up, e_st0, e_st1, e_st2, exists_eq_left, exists_eq_left', exists_eq_right, exists_eq_right', exists_eq', exists_eq, true_and, and_true, and_self, false_and, and_false, exists_and_left, exists_and_right, exists_const, Option.some.injEq, Option.map_some, Option.map_none, Sl.is.injEq, Sl.own.injEq, D.py.injEq, D.ex.injEq, D.rf.injEq, PyData.int.injEq, PyData.bool.injEq, PyData.str.injEq, PyData.list.injEq, PyData.tuple.injEq, List.cons.injEq, if_true, if_false, eq_self, Bool.false_eq_true, Bool.true_eq_false, Bool.not_true, Bool.not_false, Bool.not_not, List.getElem?_cons_zero, List.getElem?_cons_succ, List.set_cons_zero, List.set_cons_succ, List.length_cons, List.length_nil, List.cons_append, List.nil_append, reduceCtorEq, List.replicate_zero, List.replicate_succ, Nat.reduceAdd, Nat.reduceSub, decide_true, decide_false, intsOf_map', blsOf_map', strsOf_map', map_int_inj, map_str_inj, map_bool_inj, map_itD_inj, itD_iff, sh_int, sh_bool, sh_none, sh_itD, sh_nil, sh_ints, sh_its, eqv_int, eqv_bool, eqv_str, eqv_itD, eqv_ints, eqv_strs, eqv_its, eqv_nil, Nat.zero_le, and_assoc]
  unfold textOf at n
  by_cases h : q.1 = q.2.1
  · rw [if_pos h] at n
    simp only [h, wVar, wOwn, wC, wOp, wT, wChain, wAndT, wOrT, wNotT, wAnd, wOr, wNot, wIf, wNil, wCons, wDisp, wCall, wCall0, wNoPart, wPart, wSl, wRevL, wBlt, wItL, wItT, wItS, wRg1, wRg2, wEnum, wZip, wLR, wLR2, wYes, wM1, wFmt, wJoined, wIsi, wNeg, wNewD, wOwnCat, wPar2, wNext, wSeq, wNever, wSet, wNew, wAug, wExtend, wAppend, wPut, wFrz, wRet, wRetOwn, wRetN, wDrop, wIfS, wgName, wgTup, wUnp, wRaise, bodyEN, wLc, wFor, wSortSet, e_add_i, e_add_s, e_add_l, e_add_t, e_kadd_i, e_kadd_s, e_kadd_l, e_kadd_t, e_sub, e_kt, e_mul_i, e_mul_l, e_kmul_i, e_kmul_l, e_div, e_kdiv, e_mod, e_kmod, e_cmp, e_eq, e_ne, e_keq, e_is_n, e_is_b, e_isn_n, e_isn_b, e_non_n, e_non_l, e_non_t, e_non_i, e_non_s, e_non_b, e_non_x, e_in_l, e_in_t, e_ni_l, e_ni_t, e_kin_l, e_kin_t, e_kin_s, e_ix_l, e_ix_t, e_ix_s, e_kix_l, e_kix_t, e_kix_s, e_sl_l, e_sl_t, e_sl_s, e_len_l, e_len_t, e_len_s, e_klen_l, e_klen_t, e_klen_s, e_kany, e_list_l, e_list_t, e_tup_l, e_tup_t, e_sum, e_max, e_max2, e_min, e_kne, e_kne2, e_all, e_str, e_kstr, e_int, e_kint, e_split, e_ksplit, e_part, e_kpart, e_join, e_kjoin, e_pys0, e_pys1, e_sa0, e_sa1, e_wipe0, e_wipe1, e_js0, e_js1, e_ty_i, e_ty_b, e_ty_n, e_ty_s, e_ty_l, e_ty_t, e_isi_ii, e_isi_ib, e_isi_in, e_isi_is, e_isi_il, e_isi_it, e_isi_bi, e_isi_bb, e_isi_bn, e_isi_bs, e_isi_bl, e_isi_bt, e_isi_li, e_isi_lb, e_isi_ln, e_isi_ls, e_isi_ll, e_isi_lt, e_isi_ti, e_isi_tb, e_isi_tn, e_isi_ts, e_isi_tl, e_isi_tt, e_isi_si, e_isi_sb, e_isi_sn, e_isi_ss, e_isi_sl, e_isi_st, e_up, e_st0, e_st1, e_st2, exists_eq_left, exists_eq_left', exists_eq_right, exists_eq_right', exists_eq', exists_eq, true_and, and_true, and_self, false_and, and_false, exists_and_left, exists_and_right, exists_const, Option.some.injEq, Option.map_some, Option.map_none, Sl.is.injEq, Sl.own.injEq, D.py.injEq, D.ex.injEq, D.rf.injEq, PyData.int.injEq, PyData.bool.injEq, PyData.str.injEq, PyData.list.injEq, PyData.tuple.injEq, List.cons.injEq, if_true, if_false, eq_self, Bool.false_eq_true, Bool.true_eq_false, Bool.not_true, Bool.not_false, Bool.not_not, List.getElem?_cons_zero, List.getElem?_cons_succ, List.set_cons_zero, List.set_cons_succ, List.length_cons, List.length_nil, List.cons_append, List.nil_append, reduceCtorEq, List.replicate_zero, List.replicate_succ, Nat.reduceAdd, Nat.reduceSub, decide_true, decide_false, intsOf_map', blsOf_map', strsOf_map', map_int_inj, map_str_inj, map_bool_inj, map_itD_inj, itD_iff, sh_int, sh_bool, sh_none, sh_itD, sh_nil, sh_ints, sh_its, eqv_int, eqv_bool, eqv_str, eqv_itD, eqv_ints, eqv_strs, eqv_its, eqv_nil, Nat.zero_le, and_assoc] at n ⊢
    exact ⟨b1, n⟩
  · rw [if_neg h] at n
    simp only [h, wVar, wOwn, wC, wOp, wT, wChain, wAndT, wOrT, wNotT, wAnd, wOr, wNot, wIf, wNil, wCons, wDisp, wCall, wCall0, wNoPart, wPart, wSl, wRevL, wBlt, wItL, wItT, wItS, wRg1, wRg2, wEnum, wZip, wLR, wLR2, wYes, wM1, wFmt, wJoined, wIsi, wNeg, wNewD, wOwnCat, wPar2, wNext, wSeq, wNever, wSet, wNew, wAug, wExtend, wAppend, wPut, wFrz, wRet, wRetOwn, wRetN, wDrop, wIfS, wgName, wgTup, wUnp, wRaise, bodyEN, wLc, wFor, wSortSet, e_add_i, e_add_s, e_add_l, e_add_t, e_kadd_i, e_kadd_s, e_kadd_l, e_kadd_t, e_sub, e_kt, e_mul_i, e_mul_l, e_kmul_i, e_kmul_l, e_div, e_kdiv, e_mod, e_kmod, e_cmp, e_eq, e_ne, e_keq, e_is_n, e_is_b, e_isn_n, e_isn_b, e_non_n, e_non_l, e_non_t, e_non_i, e_non_s, e_non_b, e_non_x, e_in_l, e_in_t, e_ni_l, e_ni_t, e_kin_l, e_kin_t, e_kin_s, e_ix_l, e_ix_t, e_ix_s, e_kix_l, e_kix_t, e_kix_s, e_sl_l, e_sl_t, e_sl_s, e_len_l, e_len_t, e_len_s, e_klen_l, e_klen_t, e_klen_s, e_kany, e_list_l, e_list_t, e_tup_l, e_tup_t, e_sum, e_max, e_max2, e_min, e_kne, e_kne2, e_all, e_str, e_kstr, e_int, e_kint, e_split, e_ksplit, e_part, e_kpart, e_join, e_kjoin, e_pys0, e_pys1, e_sa0, e_sa1, e_wipe0, e_wipe1, e_js0, e_js1, e_ty_i, e_ty_b, e_ty_n, e_ty_s, e_ty_l, e_ty_t, e_isi_ii, e_isi_ib, e_isi_in, e_isi_is, e_isi_il, e_isi_it, e_isi_bi, e_isi_bb, e_isi_bn, e_isi_bs, e_isi_bl, e_isi_bt, e_isi_li, e_isi_lb, e_isi_ln, e_isi_ls, e_isi_ll, e_isi_lt, e_isi_ti, e_isi_tb, e_isi_tn, e_isi_ts, e_isi_tl, e_isi_tt, e_isi_si, e_isi_sb, e_isi_sn, e_isi_ss, e_isi_sl, e_isi_st, e_up, e_st0, e_st1, e_st2, exists_eq_left, exists_eq_left', exists_eq_right, exists_eq_right', exists_eq', exists_eq, true_and, and_true, and_self, false_and, and_false, exists_and_left, exists_and_right, exists_const, Option.some.injEq, Option.map_some, Option.map_none, Sl.is.injEq, Sl.own.injEq, D.py.injEq, D.ex.injEq, D.rf.injEq, PyData.int.injEq, PyData.bool.injEq, PyData.str.injEq, PyData.list.injEq, PyData.tuple.injEq, List.cons.injEq, if_true, if_false, eq_self, Bool.false_eq_true, Bool.true_eq_false, Bool.not_true, Bool.not_false, Bool.not_not, List.getElem?_cons_zero, List.getElem?_cons_succ, List.set_cons_zero, List.set_cons_succ, List.length_cons, List.length_nil, List.cons_append, List.nil_append, reduceCtorEq, List.replicate_zero, List.replicate_succ, Nat.reduceAdd, Nat.reduceSub, decide_true, decide_false, intsOf_map', blsOf_map', strsOf_map', map_int_inj, map_str_inj, map_bool_inj, map_itD_inj, itD_iff, sh_int, sh_bool, sh_none, sh_itD, sh_nil, sh_ints, sh_its, eqv_int, eqv_bool, eqv_str, eqv_itD, eqv_ints, eqv_strs, eqv_its, eqv_nil, Nat.zero_le, and_assoc]
    by_cases h2 : q.2.2 = 1
    · rw [if_pos h2] at n
      simp only [h2, wVar, wOwn, wC, wOp, wT, wChain, wAndT, wOrT, wNotT, wAnd, wOr, wNot, wIf, wNil, wCons, wDisp, wCall, wCall0, wNoPart, wPart, wSl, wRevL, wBlt, wItL, wItT, wItS, wRg1, wRg2, wEnum, wZip, wLR, wLR2, wYes, wM1, wFmt, wJoined, wIsi, wNeg, wNewD, wOwnCat, wPar2, wNext, wSeq, wNever, wSet, wNew, wAug, wExtend, wAppend, wPut, wFrz, wRet, wRetOwn, wRetN, wDrop, wIfS, wgName, wgTup, wUnp, wRaise, bodyEN, wLc, wFor, wSortSet, e_add_i, e_add_s, e_add_l, e_add_t, e_kadd_i, e_kadd_s, e_kadd_l, e_kadd_t, e_sub, e_kt, e_mul_i, e_mul_l, e_kmul_i, e_kmul_l, e_div, e_kdiv, e_mod, e_kmod, e_cmp, e_eq, e_ne, e_keq, e_is_n, e_is_b, e_isn_n, e_isn_b, e_non_n, e_non_l, e_non_t, e_non_i, e_non_s, e_non_b, e_non_x, e_in_l, e_in_t, e_ni_l, e_ni_t, e_kin_l, e_kin_t, e_kin_s, e_ix_l, e_ix_t, e_ix_s, e_kix_l, e_kix_t, e_kix_s, e_sl_l, e_sl_t, e_sl_s, e_len_l, e_len_t, e_len_s, e_klen_l, e_klen_t, e_klen_s, e_kany, e_list_l, e_list_t, e_tup_l, e_tup_t, e_sum, e_max, e_max2, e_min, e_kne, e_kne2, e_all, e_str, e_kstr, e_int, e_kint, e_split, e_ksplit, e_part, e_kpart, e_join, e_kjoin, e_pys0, e_pys1, e_sa0, e_sa1, e_wipe0, e_wipe1, e_js0, e_js1, e_ty_i, e_ty_b, e_ty_n, e_ty_s, e_ty_l, e_ty_t, e_isi_ii, e_isi_ib, e_isi_in, e_isi_is, e_isi_il, e_isi_it, e_isi_bi, e_isi_bb, e_isi_bn, e_isi_bs, e_isi_bl, e_isi_bt, e_isi_li, e_isi_lb, e_isi_ln, e_isi_ls, e_isi_ll, e_isi_lt, e_isi_ti, e_isi_tb, e_isi_tn, e_isi_ts, e_isi_tl, e_isi_tt, e_isi_si, e_isi_sb, e_isi_sn, e_isi_ss, e_isi_sl, e_isi_st, e_up, e_st0, e_st1, e_st2, exists_eq_left, exists_eq_left', exists_eq_right, exists_eq_right', exists_eq', exists_eq, true_and, and_true, and_self, false_and, and_false, exists_and_left, exists_and_right, exists_const, Option.some.injEq, Option.map_some, Option.map_none, Sl.is.injEq, Sl.own.injEq, D.py.injEq, D.ex.injEq, D.rf.injEq, PyData.int.injEq, PyData.bool.injEq, PyData.str.injEq, PyData.list.injEq, PyData.tuple.injEq, List.cons.injEq, if_true, if_false, eq_self, Bool.false_eq_true, Bool.true_eq_false, Bool.not_true, Bool.not_false, Bool.not_not, List.getElem?_cons_zero, List.getElem?_cons_succ, List.set_cons_zero, List.set_cons_succ, List.length_cons, List.length_nil, List.cons_append, List.nil_append, reduceCtorEq, List.replicate_zero, List.replicate_succ, Nat.reduceAdd, Nat.reduceSub, decide_true, decide_false, intsOf_map', blsOf_map', strsOf_map', map_int_inj, map_str_inj, map_bool_inj, map_itD_inj, itD_iff, sh_int, sh_bool, sh_none, sh_itD, sh_nil, sh_ints, sh_its, eqv_int, eqv_bool, eqv_str, eqv_itD, eqv_ints, eqv_strs, eqv_its, eqv_nil, Nat.zero_le, and_assoc]
      simp only [PySem.Str.length_append]
      exact .inr ⟨a1, hb (by omega), hb (by omega), .inr ⟨b1, hb (by omega), n⟩⟩
    · rw [if_neg h2] at n
      simp only [h2, wVar, wOwn, wC, wOp, wT, wChain, wAndT, wOrT, wNotT, wAnd, wOr, wNot, wIf, wNil, wCons, wDisp, wCall, wCall0, wNoPart, wPart, wSl, wRevL, wBlt, wItL, wItT, wItS, wRg1, wRg2, wEnum, wZip, wLR, wLR2, wYes, wM1, wFmt, wJoined, wIsi, wNeg, wNewD, wOwnCat, wPar2, wNext, wSeq, wNever, wSet, wNew, wAug, wExtend, wAppend, wPut, wFrz, wRet, wRetOwn, wRetN, wDrop, wIfS, wgName, wgTup, wUnp, wRaise, bodyEN, wLc, wFor, wSortSet, e_add_i, e_add_s, e_add_l, e_add_t, e_kadd_i, e_kadd_s, e_kadd_l, e_kadd_t, e_sub, e_kt, e_mul_i, e_mul_l, e_kmul_i, e_kmul_l, e_div, e_kdiv, e_mod, e_kmod, e_cmp, e_eq, e_ne, e_keq, e_is_n, e_is_b, e_isn_n, e_isn_b, e_non_n, e_non_l, e_non_t, e_non_i, e_non_s, e_non_b, e_non_x, e_in_l, e_in_t, e_ni_l, e_ni_t, e_kin_l, e_kin_t, e_kin_s, e_ix_l, e_ix_t, e_ix_s, e_kix_l, e_kix_t, e_kix_s, e_sl_l, e_sl_t, e_sl_s, e_len_l, e_len_t, e_len_s, e_klen_l, e_klen_t, e_klen_s, e_kany, e_list_l, e_list_t, e_tup_l, e_tup_t, e_sum, e_max, e_max2, e_min, e_kne, e_kne2, e_all, e_str, e_kstr, e_int, e_kint, e_split, e_ksplit, e_part, e_kpart, e_join, e_kjoin, e_pys0, e_pys1, e_sa0, e_sa1, e_wipe0, e_wipe1, e_js0, e_js1, e_ty_i, e_ty_b, e_ty_n, e_ty_s, e_ty_l, e_ty_t, e_isi_ii, e_isi_ib, e_isi_in, e_isi_is, e_isi_il, e_isi_it, e_isi_bi, e_isi_bb, e_isi_bn, e_isi_bs, e_isi_bl, e_isi_bt, e_isi_li, e_isi_lb, e_isi_ln, e_isi_ls, e_isi_ll, e_isi_lt, e_isi_ti, e_isi_tb, e_isi_tn, e_isi_ts, e_isi_tl, e_isi_tt, e_isi_si, e_isi_sb, e_isi_sn, e_isi_ss, e_isi_sl, e_isi_st, e_up, e_st0, e_st1, e_st2, exists_eq_left, exists_eq_left', exists_eq_right, exists_eq_right', exists_eq', exists_eq, true_and, and_true, and_self, false_and, and_false, exists_and_left, exists_and_right, exists_const, Option.some.injEq, Option.map_some, Option.map_none, Sl.is.injEq, Sl.own.injEq, D.py.injEq, D.ex.injEq, D.rf.injEq, PyData.int.injEq, PyData.bool.injEq, PyData.str.injEq, PyData.list.injEq, PyData.tuple.injEq, List.cons.injEq, if_true, if_false, eq_self, Bool.false_eq_true, Bool.true_eq_false, Bool.not_true, Bool.not_false, Bool.not_not, List.getElem?_cons_zero, List.getElem?_cons_succ, List.set_cons_zero, List.set_cons_succ, List.length_cons, List.length_nil, List.cons_append, List.nil_append, reduceCtorEq, List.replicate_zero, List.replicate_succ, Nat.reduceAdd, Nat.reduceSub, decide_true, decide_false, intsOf_map', blsOf_map', strsOf_map', map_int_inj, map_str_inj, map_bool_inj, map_itD_inj, itD_iff, sh_int, sh_bool, sh_none, sh_itD, sh_nil, sh_ints, sh_its, eqv_int, eqv_bool, eqv_str, eqv_itD, eqv_ints, eqv_strs, eqv_its, eqv_nil, Nat.zero_le, and_assoc]
      simp only [PySem.Str.length_append]
      exact .inr ⟨a1, hb (by omega), hb (by omega), .inr ⟨b1, hb (by omega), hb (by omega), .inr ⟨c1, hb (by omega), n⟩⟩⟩
end RT
end
section
set_option Elab.async false
set_option linter.all false
set_option maxRecDepth 100000
set_option maxHeartbeats 4000000
namespace RT
open PySem PySem.Spec PyProof.Rows L2
/-! ### words -/
def numberIn (w : Str) : Int := match ten.find? fun k => decide (w = iStr k) with
  | some k => k
  | none => 0
theorem numberIn_len {w : Str} (h : numberIn w ≠ 0) : 1 ≤ w.length ∧ w.length ≤ 2 ∧ ∀ c ∈ w.cps.toList, c ∈ (Str.ofString "0123456789").cps.toList := by
  unfold numberIn at h
  split at h
  · rename_i k hk
    have h1 := List.find?_some hk
    have h2 := List.mem_of_find?_eq_some hk
    have : ∀ k ∈ ten, 1 ≤ (iStr k).length ∧ (iStr k).length ≤ 2 ∧ ∀ c ∈ (iStr k).cps.toList, c ∈ (Str.ofString "0123456789").cps.toList := by decide +kernel
    rw [of_decide_eq_true h1]
    exact this k h2
  · exact absurd rfl h
def digs : List Nat := (Str.ofString "0123456789").cps.toList
def digW : List (List Nat) := digs.map (fun c => [c]) ++ digs.flatMap fun c => digs.map fun d => [c, d]
def numChk (l : List Nat) : Bool := match PySem.intText? ⟨l.toArray⟩ with
  | some n => decide (n.natAbs.log2 < 1920) && PyData.strOk (Str.ofString (toString n)) && decide (numberIn ⟨l.toArray⟩ = if Str.ofString (toString n) = ⟨l.toArray⟩ then (if n ≤ 10 then n else 0) else 0)
  | none => false
theorem num_all : digW.all numChk = true := by decide +kernel
theorem digW_of {l : List Nat} (h1 : 1 ≤ l.length) (h2 : l.length ≤ 2) (h : ∀ c ∈ l, c ∈ digs) : l ∈ digW := by
  unfold digW
  match l, h1, h2 with
  | [c], _, _ => exact List.mem_append_left _ (List.mem_map.mpr ⟨c, h c List.mem_cons_self, rfl⟩)
  | [c, d], _, _ => exact List.mem_append_right _ (List.mem_flatMap.mpr ⟨c, h c List.mem_cons_self, List.mem_map.mpr ⟨d, h d (by simp), rfl⟩⟩)
theorem e_in_s (c : Nat) (z : Str) : fIn (.py (.str ⟨#[c]⟩)) (.py (.str z)) = some (.py (.bool (decide (c ∈ z.cps.toList)))) := rfl
def sp_number_in : Spec0 := fun ds N _ => ∃ w : Str, ds = [.py (.str w)] ∧ TOk w ∧ N (.py (.int (numberIn w)))
def w_number_in : WS Unit :=
  wSeq (wIfS (wOrT (wNotT (wT (wChain fLe kTrue fLe kTrue (wC (.int 1)) (wBlt fLen kLen (wCons (wVar 0) (wNil))) (wC (.int 2))))) (wOrT (wNotT (wT (wBlt fAll kAny (wCons (wLc (wItS (wVar 0)) (wgName 1) (wYes) (wOp fIn kIn (wVar 1) (wC (.str "0123456789"))) [1]) (wNil))))) (wT (wOp fNe kEq (wBlt fStr kStr (wCons (wBlt fInt kInt (wCons (wVar 0) (wNil))) (wNil))) (wVar 0))))) (wRet (wC (.int 0))) (wNext)) (wRet (wIf (wT (wOp fLe kTrue (wBlt fInt kInt (wCons (wVar 0) (wNil))) (wC (.int 10)))) (wBlt fInt kInt (wCons (wVar 0) (wNil))) (wC (.int 0))))
theorem law_number_in : ∀ ds θ N Nx, sp_number_in.up ds θ N Nx → w_number_in (bodyEN N Nx) (startD 2 ds) θ := by
  rintro ds θ N Nx ⟨w, rfl, ok, n⟩
  have hl : w.length = w.cps.toList.length := by simp [Str.length]
  simp only [w_number_in, wVar, wOwn, wC, wOp, wT, wChain, wAndT, wOrT, wNotT, wAnd, wOr, wNot, wIf, wNil, wCons, wDisp, wCall, wCall0, wNoPart, wPart, wSl, wRevL, wBlt, wItL, wItT, wItS, wRg1, wRg2, wEnum, wZip, wLR, wLR2, wYes, wM1, wFmt, wJoined, wIsi, wNeg, wNewD, wOwnCat, wPar2, wNext, wSeq, wNever, wSet, wNew, wAug, wExtend, wAppend, wPut, wFrz, wRet, wRetOwn, wRetN, wDrop, wIfS, wgName, wgTup, wUnp, wRaise, bodyEN, wLc, wFor, wSortSet, e_add_i, e_add_s, e_add_l, e_add_t, e_kadd_i, e_kadd_s, e_kadd_l, e_kadd_t, e_sub, e_kt, e_mul_i, e_mul_l, e_kmul_i, e_kmul_l, e_div, e_kdiv, e_mod, e_kmod, e_cmp, e_eq, e_ne, e_keq, e_is_n, e_is_b, e_isn_n, e_isn_b, e_non_n, e_non_l, e_non_t, e_non_i, e_non_s, e_non_b, e_non_x, e_in_l, e_in_t, e_ni_l, e_ni_t, e_kin_l, e_kin_t, e_kin_s, e_ix_l, e_ix_t, e_ix_s, e_kix_l, e_kix_t, e_kix_s, e_sl_l, e_sl_t, e_sl_s, e_len_l, e_len_t, e_len_s, e_klen_l, e_klen_t, e_klen_s, e_kany, e_list_l, e_list_t, e_tup_l, e_tup_t, e_sum, e_max, e_max2, e_min, e_kne, e_kne2, e_all, e_str, e_kstr, e_int, e_kint, e_split, e_ksplit, e_part, e_kpart, e_join, e_kjoin, e_pys0, e_pys1, e_sa0, e_sa1, e_wipe0, e_wipe1, e_js0, e_js1, e_ty_i, e_ty_b, e_ty_n, e_ty_s, e_ty_l, e_ty_t, e_isi_ii, e_isi_ib, e_isi_in, e_isi_is, e_isi_il, e_isi_it, e_isi_bi, e_isi_bb, e_isi_bn, e_isi_bs, e_isi_bl, e_isi_bt, e_isi_li, e_isi_lb, e_isi_ln, e_isi_ls, e_isi_ll, e_isi_lt, e_isi_ti, e_isi_tb, e_isi_tn, e_isi_ts, e_isi_tl, e_isi_tt, e_isi_si, e_isi_sb, e_isi_sn, e_isi_ss, e_isi_sl, e_isi_st, e_up, e_st0, e_st1, e_st2, exists_eq_left, exists_eq_left', exists_eq_right, exists_eq_right', exists_eq', exists_eq, true_and, and_true, and_self, false_and, and_false, exists_and_left, exists_and_right, exists_const, Option.some.injEq, Option.map_some, Option.map_none, Sl.is.injEq, Sl.own.injEq, D.py.injEq, D.ex.injEq, D.rf.injEq, PyData.int.injEq, PyData.bool.injEq, PyData.str.injEq, PyData.list.injEq, PyData.tuple.injEq, List.cons.injEq, if_true, if_false, eq_self, Bool.false_eq_true, Bool.true_eq_false, Bool.not_true, Bool.not_false, Bool.not_not, List.getElem?_cons_zero, List.getElem?_cons_succ, List.set_cons_zero, List.set_cons_succ, List.length_cons, List.length_nil, List.cons_append, List.nil_append, reduceCtorEq, List.replicate_zero, List.replicate_succ, Nat.reduceAdd, Nat.reduceSub, decide_true, decide_false, intsOf_map', blsOf_map', strsOf_map', map_int_inj, map_str_inj, map_bool_inj, map_itD_inj, itD_iff, sh_int, sh_bool, sh_none, sh_itD, sh_nil, sh_ints, sh_its, eqv_int, eqv_bool, eqv_str, eqv_itD, eqv_ints, eqv_strs, eqv_its, eqv_nil, Nat.zero_le, and_assoc]
  have hz : w.length ≤ sizeLine := le_line ok.2
  simp only [hz, wVar, wOwn, wC, wOp, wT, wChain, wAndT, wOrT, wNotT, wAnd, wOr, wNot, wIf, wNil, wCons, wDisp, wCall, wCall0, wNoPart, wPart, wSl, wRevL, wBlt, wItL, wItT, wItS, wRg1, wRg2, wEnum, wZip, wLR, wLR2, wYes, wM1, wFmt, wJoined, wIsi, wNeg, wNewD, wOwnCat, wPar2, wNext, wSeq, wNever, wSet, wNew, wAug, wExtend, wAppend, wPut, wFrz, wRet, wRetOwn, wRetN, wDrop, wIfS, wgName, wgTup, wUnp, wRaise, bodyEN, wLc, wFor, wSortSet, e_add_i, e_add_s, e_add_l, e_add_t, e_kadd_i, e_kadd_s, e_kadd_l, e_kadd_t, e_sub, e_kt, e_mul_i, e_mul_l, e_kmul_i, e_kmul_l, e_div, e_kdiv, e_mod, e_kmod, e_cmp, e_eq, e_ne, e_keq, e_is_n, e_is_b, e_isn_n, e_isn_b, e_non_n, e_non_l, e_non_t, e_non_i, e_non_s, e_non_b, e_non_x, e_in_l, e_in_t, e_ni_l, e_ni_t, e_kin_l, e_kin_t, e_kin_s, e_ix_l, e_ix_t, e_ix_s, e_kix_l, e_kix_t, e_kix_s, e_sl_l, e_sl_t, e_sl_s, e_len_l, e_len_t, e_len_s, e_klen_l, e_klen_t, e_klen_s, e_kany, e_list_l, e_list_t, e_tup_l, e_tup_t, e_sum, e_max, e_max2, e_min, e_kne, e_kne2, e_all, e_str, e_kstr, e_int, e_kint, e_split, e_ksplit, e_part, e_kpart, e_join, e_kjoin, e_pys0, e_pys1, e_sa0, e_sa1, e_wipe0, e_wipe1, e_js0, e_js1, e_ty_i, e_ty_b, e_ty_n, e_ty_s, e_ty_l, e_ty_t, e_isi_ii, e_isi_ib, e_isi_in, e_isi_is, e_isi_il, e_isi_it, e_isi_bi, e_isi_bb, e_isi_bn, e_isi_bs, e_isi_bl, e_isi_bt, e_isi_li, e_isi_lb, e_isi_ln, e_isi_ls, e_isi_ll, e_isi_lt, e_isi_ti, e_isi_tb, e_isi_tn, e_isi_ts, e_isi_tl, e_isi_tt, e_isi_si, e_isi_sb, e_isi_sn, e_isi_ss, e_isi_sl, e_isi_st, e_up, e_st0, e_st1, e_st2, exists_eq_left, exists_eq_left', exists_eq_right, exists_eq_right', exists_eq', exists_eq, true_and, and_true, and_self, false_and, and_false, exists_and_left, exists_and_right, exists_const, Option.some.injEq, Option.map_some, Option.map_none, Sl.is.injEq, Sl.own.injEq, D.py.injEq, D.ex.injEq, D.rf.injEq, PyData.int.injEq, PyData.bool.injEq, PyData.str.injEq, PyData.list.injEq, PyData.tuple.injEq, List.cons.injEq, if_true, if_false, eq_self, Bool.false_eq_true, Bool.true_eq_false, Bool.not_true, Bool.not_false, Bool.not_not, List.getElem?_cons_zero, List.getElem?_cons_succ, List.set_cons_zero, List.set_cons_succ, List.length_cons, List.length_nil, List.cons_append, List.nil_append, reduceCtorEq, List.replicate_zero, List.replicate_succ, Nat.reduceAdd, Nat.reduceSub, decide_true, decide_false, intsOf_map', blsOf_map', strsOf_map', map_int_inj, map_str_inj, map_bool_inj, map_itD_inj, itD_iff, sh_int, sh_bool, sh_none, sh_itD, sh_nil, sh_ints, sh_its, eqv_int, eqv_bool, eqv_str, eqv_itD, eqv_ints, eqv_strs, eqv_its, eqv_nil, Nat.zero_le, and_assoc]
  cases h1 : decide ((1 : Int) ≤ (w.length : Int)) with
  | false =>
    simp only [wVar, wOwn, wC, wOp, wT, wChain, wAndT, wOrT, wNotT, wAnd, wOr, wNot, wIf, wNil, wCons, wDisp, wCall, wCall0, wNoPart, wPart, wSl, wRevL, wBlt, wItL, wItT, wItS, wRg1, wRg2, wEnum, wZip, wLR, wLR2, wYes, wM1, wFmt, wJoined, wIsi, wNeg, wNewD, wOwnCat, wPar2, wNext, wSeq, wNever, wSet, wNew, wAug, wExtend, wAppend, wPut, wFrz, wRet, wRetOwn, wRetN, wDrop, wIfS, wgName, wgTup, wUnp, wRaise, bodyEN, wLc, wFor, wSortSet, e_add_i, e_add_s, e_add_l, e_add_t, e_kadd_i, e_kadd_s, e_kadd_l, e_kadd_t, e_sub, e_kt, e_mul_i, e_mul_l, e_kmul_i, e_kmul_l, e_div, e_kdiv, e_mod, e_kmod, e_cmp, e_eq, e_ne, e_keq, e_is_n, e_is_b, e_isn_n, e_isn_b, e_non_n, e_non_l, e_non_t, e_non_i, e_non_s, e_non_b, e_non_x, e_in_l, e_in_t, e_ni_l, e_ni_t, e_kin_l, e_kin_t, e_kin_s, e_ix_l, e_ix_t, e_ix_s, e_kix_l, e_kix_t, e_kix_s, e_sl_l, e_sl_t, e_sl_s, e_len_l, e_len_t, e_len_s, e_klen_l, e_klen_t, e_klen_s, e_kany, e_list_l, e_list_t, e_tup_l, e_tup_t, e_sum, e_max, e_max2, e_min, e_kne, e_kne2, e_all, e_str, e_kstr, e_int, e_kint, e_split, e_ksplit, e_part, e_kpart, e_join, e_kjoin, e_pys0, e_pys1, e_sa0, e_sa1, e_wipe0, e_wipe1, e_js0, e_js1, e_ty_i, e_ty_b, e_ty_n, e_ty_s, e_ty_l, e_ty_t, e_isi_ii, e_isi_ib, e_isi_in, e_isi_is, e_isi_il, e_isi_it, e_isi_bi, e_isi_bb, e_isi_bn, e_isi_bs, e_isi_bl, e_isi_bt, e_isi_li, e_isi_lb, e_isi_ln, e_isi_ls, e_isi_ll, e_isi_lt, e_isi_ti, e_isi_tb, e_isi_tn, e_isi_ts, e_isi_tl, e_isi_tt, e_isi_si, e_isi_sb, e_isi_sn, e_isi_ss, e_isi_sl, e_isi_st, e_up, e_st0, e_st1, e_st2, exists_eq_left, exists_eq_left', exists_eq_right, exists_eq_right', exists_eq', exists_eq, true_and, and_true, and_self, false_and, and_false, exists_and_left, exists_and_right, exists_const, Option.some.injEq, Option.map_some, Option.map_none, Sl.is.injEq, Sl.own.injEq, D.py.injEq, D.ex.injEq, D.rf.injEq, PyData.int.injEq, PyData.bool.injEq, PyData.str.injEq, PyData.list.injEq, PyData.tuple.injEq, List.cons.injEq, if_true, if_false, eq_self, Bool.false_eq_true, Bool.true_eq_false, Bool.not_true, Bool.not_false, Bool.not_not, List.getElem?_cons_zero, List.getElem?_cons_succ, List.set_cons_zero, List.set_cons_succ, List.length_cons, List.length_nil, List.cons_append, List.nil_append, reduceCtorEq, List.replicate_zero, List.replicate_succ, Nat.reduceAdd, Nat.reduceSub, decide_true, decide_false, intsOf_map', blsOf_map', strsOf_map', map_int_inj, map_str_inj, map_bool_inj, map_itD_inj, itD_iff, sh_int, sh_bool, sh_none, sh_itD, sh_nil, sh_ints, sh_its, eqv_int, eqv_bool, eqv_str, eqv_itD, eqv_ints, eqv_strs, eqv_its, eqv_nil, Nat.zero_le, and_assoc]
    have e : numberIn w = 0 := Classical.byContradiction fun q => by
      have := numberIn_len q
      simp at h1
      omega
    rw [e] at n
    exact n
  | true =>
    simp only [wVar, wOwn, wC, wOp, wT, wChain, wAndT, wOrT, wNotT, wAnd, wOr, wNot, wIf, wNil, wCons, wDisp, wCall, wCall0, wNoPart, wPart, wSl, wRevL, wBlt, wItL, wItT, wItS, wRg1, wRg2, wEnum, wZip, wLR, wLR2, wYes, wM1, wFmt, wJoined, wIsi, wNeg, wNewD, wOwnCat, wPar2, wNext, wSeq, wNever, wSet, wNew, wAug, wExtend, wAppend, wPut, wFrz, wRet, wRetOwn, wRetN, wDrop, wIfS, wgName, wgTup, wUnp, wRaise, bodyEN, wLc, wFor, wSortSet, e_add_i, e_add_s, e_add_l, e_add_t, e_kadd_i, e_kadd_s, e_kadd_l, e_kadd_t, e_sub, e_kt, e_mul_i, e_mul_l, e_kmul_i, e_kmul_l, e_div, e_kdiv, e_mod, e_kmod, e_cmp, e_eq, e_ne, e_keq, e_is_n, e_is_b, e_isn_n, e_isn_b, e_non_n, e_non_l, e_non_t, e_non_i, e_non_s, e_non_b, e_non_x, e_in_l, e_in_t, e_ni_l, e_ni_t, e_kin_l, e_kin_t, e_kin_s, e_ix_l, e_ix_t, e_ix_s, e_kix_l, e_kix_t, e_kix_s, e_sl_l, e_sl_t, e_sl_s, e_len_l, e_len_t, e_len_s, e_klen_l, e_klen_t, e_klen_s, e_kany, e_list_l, e_list_t, e_tup_l, e_tup_t, e_sum, e_max, e_max2, e_min, e_kne, e_kne2, e_all, e_str, e_kstr, e_int, e_kint, e_split, e_ksplit, e_part, e_kpart, e_join, e_kjoin, e_pys0, e_pys1, e_sa0, e_sa1, e_wipe0, e_wipe1, e_js0, e_js1, e_ty_i, e_ty_b, e_ty_n, e_ty_s, e_ty_l, e_ty_t, e_isi_ii, e_isi_ib, e_isi_in, e_isi_is, e_isi_il, e_isi_it, e_isi_bi, e_isi_bb, e_isi_bn, e_isi_bs, e_isi_bl, e_isi_bt, e_isi_li, e_isi_lb, e_isi_ln, e_isi_ls, e_isi_ll, e_isi_lt, e_isi_ti, e_isi_tb, e_isi_tn, e_isi_ts, e_isi_tl, e_isi_tt, e_isi_si, e_isi_sb, e_isi_sn, e_isi_ss, e_isi_sl, e_isi_st, e_up, e_st0, e_st1, e_st2, exists_eq_left, exists_eq_left', exists_eq_right, exists_eq_right', exists_eq', exists_eq, true_and, and_true, and_self, false_and, and_false, exists_and_left, exists_and_right, exists_const, Option.some.injEq, Option.map_some, Option.map_none, Sl.is.injEq, Sl.own.injEq, D.py.injEq, D.ex.injEq, D.rf.injEq, PyData.int.injEq, PyData.bool.injEq, PyData.str.injEq, PyData.list.injEq, PyData.tuple.injEq, List.cons.injEq, if_true, if_false, eq_self, Bool.false_eq_true, Bool.true_eq_false, Bool.not_true, Bool.not_false, Bool.not_not, List.getElem?_cons_zero, List.getElem?_cons_succ, List.set_cons_zero, List.set_cons_succ, List.length_cons, List.length_nil, List.cons_append, List.nil_append, reduceCtorEq, List.replicate_zero, List.replicate_succ, Nat.reduceAdd, Nat.reduceSub, decide_true, decide_false, intsOf_map', blsOf_map', strsOf_map', map_int_inj, map_str_inj, map_bool_inj, map_itD_inj, itD_iff, sh_int, sh_bool, sh_none, sh_itD, sh_nil, sh_ints, sh_its, eqv_int, eqv_bool, eqv_str, eqv_itD, eqv_ints, eqv_strs, eqv_its, eqv_nil, Nat.zero_le, and_assoc]
    cases h2 : decide ((w.length : Int) ≤ 2) with
    | false =>
      simp only [wVar, wOwn, wC, wOp, wT, wChain, wAndT, wOrT, wNotT, wAnd, wOr, wNot, wIf, wNil, wCons, wDisp, wCall, wCall0, wNoPart, wPart, wSl, wRevL, wBlt, wItL, wItT, wItS, wRg1, wRg2, wEnum, wZip, wLR, wLR2, wYes, wM1, wFmt, wJoined, wIsi, wNeg, wNewD, wOwnCat, wPar2, wNext, wSeq, wNever, wSet, wNew, wAug, wExtend, wAppend, wPut, wFrz, wRet, wRetOwn, wRetN, wDrop, wIfS, wgName, wgTup, wUnp, wRaise, bodyEN, wLc, wFor, wSortSet, e_add_i, e_add_s, e_add_l, e_add_t, e_kadd_i, e_kadd_s, e_kadd_l, e_kadd_t, e_sub, e_kt, e_mul_i, e_mul_l, e_kmul_i, e_kmul_l, e_div, e_kdiv, e_mod, e_kmod, e_cmp, e_eq, e_ne, e_keq, e_is_n, e_is_b, e_isn_n, e_isn_b, e_non_n, e_non_l, e_non_t, e_non_i, e_non_s, e_non_b, e_non_x, e_in_l, e_in_t, e_ni_l, e_ni_t, e_kin_l, e_kin_t, e_kin_s, e_ix_l, e_ix_t, e_ix_s, e_kix_l, e_kix_t, e_kix_s, e_sl_l, e_sl_t, e_sl_s, e_len_l, e_len_t, e_len_s, e_klen_l, e_klen_t, e_klen_s, e_kany, e_list_l, e_list_t, e_tup_l, e_tup_t, e_sum, e_max, e_max2, e_min, e_kne, e_kne2, e_all, e_str, e_kstr, e_int, e_kint, e_split, e_ksplit, e_part, e_kpart, e_join, e_kjoin, e_pys0, e_pys1, e_sa0, e_sa1, e_wipe0, e_wipe1, e_js0, e_js1, e_ty_i, e_ty_b, e_ty_n, e_ty_s, e_ty_l, e_ty_t, e_isi_ii, e_isi_ib, e_isi_in, e_isi_is, e_isi_il, e_isi_it, e_isi_bi, e_isi_bb, e_isi_bn, e_isi_bs, e_isi_bl, e_isi_bt, e_isi_li, e_isi_lb, e_isi_ln, e_isi_ls, e_isi_ll, e_isi_lt, e_isi_ti, e_isi_tb, e_isi_tn, e_isi_ts, e_isi_tl, e_isi_tt, e_isi_si, e_isi_sb, e_isi_sn, e_isi_ss, e_isi_sl, e_isi_st, e_up, e_st0, e_st1, e_st2, exists_eq_left, exists_eq_left', exists_eq_right, exists_eq_right', exists_eq', exists_eq, true_and, and_true, and_self, false_and, and_false, exists_and_left, exists_and_right, exists_const, Option.some.injEq, Option.map_some, Option.map_none, Sl.is.injEq, Sl.own.injEq, D.py.injEq, D.ex.injEq, D.rf.injEq, PyData.int.injEq, PyData.bool.injEq, PyData.str.injEq, PyData.list.injEq, PyData.tuple.injEq, List.cons.injEq, if_true, if_false, eq_self, Bool.false_eq_true, Bool.true_eq_false, Bool.not_true, Bool.not_false, Bool.not_not, List.getElem?_cons_zero, List.getElem?_cons_succ, List.set_cons_zero, List.set_cons_succ, List.length_cons, List.length_nil, List.cons_append, List.nil_append, reduceCtorEq, List.replicate_zero, List.replicate_succ, Nat.reduceAdd, Nat.reduceSub, decide_true, decide_false, intsOf_map', blsOf_map', strsOf_map', map_int_inj, map_str_inj, map_bool_inj, map_itD_inj, itD_iff, sh_int, sh_bool, sh_none, sh_itD, sh_nil, sh_ints, sh_its, eqv_int, eqv_bool, eqv_str, eqv_itD, eqv_ints, eqv_strs, eqv_its, eqv_nil, Nat.zero_le, and_assoc]
      have e : numberIn w = 0 := Classical.byContradiction fun q => by
        have := numberIn_len q
        simp at h2
        omega
      rw [e] at n
      exact n
    | true =>
      simp only [wVar, wOwn, wC, wOp, wT, wChain, wAndT, wOrT, wNotT, wAnd, wOr, wNot, wIf, wNil, wCons, wDisp, wCall, wCall0, wNoPart, wPart, wSl, wRevL, wBlt, wItL, wItT, wItS, wRg1, wRg2, wEnum, wZip, wLR, wLR2, wYes, wM1, wFmt, wJoined, wIsi, wNeg, wNewD, wOwnCat, wPar2, wNext, wSeq, wNever, wSet, wNew, wAug, wExtend, wAppend, wPut, wFrz, wRet, wRetOwn, wRetN, wDrop, wIfS, wgName, wgTup, wUnp, wRaise, bodyEN, wLc, wFor, wSortSet, e_add_i, e_add_s, e_add_l, e_add_t, e_kadd_i, e_kadd_s, e_kadd_l, e_kadd_t, e_sub, e_kt, e_mul_i, e_mul_l, e_kmul_i, e_kmul_l, e_div, e_kdiv, e_mod, e_kmod, e_cmp, e_eq, e_ne, e_keq, e_is_n, e_is_b, e_isn_n, e_isn_b, e_non_n, e_non_l, e_non_t, e_non_i, e_non_s, e_non_b, e_non_x, e_in_l, e_in_t, e_ni_l, e_ni_t, e_kin_l, e_kin_t, e_kin_s, e_ix_l, e_ix_t, e_ix_s, e_kix_l, e_kix_t, e_kix_s, e_sl_l, e_sl_t, e_sl_s, e_len_l, e_len_t, e_len_s, e_klen_l, e_klen_t, e_klen_s, e_kany, e_list_l, e_list_t, e_tup_l, e_tup_t, e_sum, e_max, e_max2, e_min, e_kne, e_kne2, e_all, e_str, e_kstr, e_int, e_kint, e_split, e_ksplit, e_part, e_kpart, e_join, e_kjoin, e_pys0, e_pys1, e_sa0, e_sa1, e_wipe0, e_wipe1, e_js0, e_js1, e_ty_i, e_ty_b, e_ty_n, e_ty_s, e_ty_l, e_ty_t, e_isi_ii, e_isi_ib, e_isi_in, e_isi_is, e_isi_il, e_isi_it, e_isi_bi, e_isi_bb, e_isi_bn, e_isi_bs, e_isi_bl, e_isi_bt, e_isi_li, e_isi_lb, e_isi_ln, e_isi_ls, e_isi_ll, e_isi_lt, e_isi_ti, e_isi_tb, e_isi_tn, e_isi_ts, e_isi_tl, e_isi_tt, e_isi_si, e_isi_sb, e_isi_sn, e_isi_ss, e_isi_sl, e_isi_st, e_up, e_st0, e_st1, e_st2, exists_eq_left, exists_eq_left', exists_eq_right, exists_eq_right', exists_eq', exists_eq, true_and, and_true, and_self, false_and, and_false, exists_and_left, exists_and_right, exists_const, Option.some.injEq, Option.map_some, Option.map_none, Sl.is.injEq, Sl.own.injEq, D.py.injEq, D.ex.injEq, D.rf.injEq, PyData.int.injEq, PyData.bool.injEq, PyData.str.injEq, PyData.list.injEq, PyData.tuple.injEq, List.cons.injEq, if_true, if_false, eq_self, Bool.false_eq_true, Bool.true_eq_false, Bool.not_true, Bool.not_false, Bool.not_not, List.getElem?_cons_zero, List.getElem?_cons_succ, List.set_cons_zero, List.set_cons_succ, List.length_cons, List.length_nil, List.cons_append, List.nil_append, reduceCtorEq, List.replicate_zero, List.replicate_succ, Nat.reduceAdd, Nat.reduceSub, decide_true, decide_false, intsOf_map', blsOf_map', strsOf_map', map_int_inj, map_str_inj, map_bool_inj, map_itD_inj, itD_iff, sh_int, sh_bool, sh_none, sh_itD, sh_nil, sh_ints, sh_its, eqv_int, eqv_bool, eqv_str, eqv_itD, eqv_ints, eqv_strs, eqv_its, eqv_nil, Nat.zero_le, and_assoc]
      refine lcGo_map (fun c => D.py (.str ⟨#[c]⟩)) (fun c => .bool (decide (c ∈ digs))) _ (fun x hx T q => ?_) (by rw [← hl]; exact hz) ?_
      · simp only [wVar, wOwn, wC, wOp, wT, wChain, wAndT, wOrT, wNotT, wAnd, wOr, wNot, wIf, wNil, wCons, wDisp, wCall, wCall0, wNoPart, wPart, wSl, wRevL, wBlt, wItL, wItT, wItS, wRg1, wRg2, wEnum, wZip, wLR, wLR2, wYes, wM1, wFmt, wJoined, wIsi, wNeg, wNewD, wOwnCat, wPar2, wNext, wSeq, wNever, wSet, wNew, wAug, wExtend, wAppend, wPut, wFrz, wRet, wRetOwn, wRetN, wDrop, wIfS, wgName, wgTup, wUnp, wRaise, bodyEN, wLc, wFor, wSortSet, e_add_i, e_add_s, e_add_l, e_add_t, e_kadd_i, e_kadd_s, e_kadd_l, e_kadd_t, e_sub, e_kt, e_mul_i, e_mul_l, e_kmul_i, e_kmul_l, e_div, e_kdiv, e_mod, e_kmod, e_cmp, e_eq, e_ne, e_keq, e_is_n, e_is_b, e_isn_n, e_isn_b, e_non_n, e_non_l, e_non_t, e_non_i, e_non_s, e_non_b, e_non_x, e_in_l, e_in_t, e_ni_l, e_ni_t, e_kin_l, e_kin_t, e_kin_s, e_ix_l, e_ix_t, e_ix_s, e_kix_l, e_kix_t, e_kix_s, e_sl_l, e_sl_t, e_sl_s, e_len_l, e_len_t, e_len_s, e_klen_l, e_klen_t, e_klen_s, e_kany, e_list_l, e_list_t, e_tup_l, e_tup_t, e_sum, e_max, e_max2, e_min, e_kne, e_kne2, e_all, e_str, e_kstr, e_int, e_kint, e_split, e_ksplit, e_part, e_kpart, e_join, e_kjoin, e_pys0, e_pys1, e_sa0, e_sa1, e_wipe0, e_wipe1, e_js0, e_js1, e_ty_i, e_ty_b, e_ty_n, e_ty_s, e_ty_l, e_ty_t, e_isi_ii, e_isi_ib, e_isi_in, e_isi_is, e_isi_il, e_isi_it, e_isi_bi, e_isi_bb, e_isi_bn, e_isi_bs, e_isi_bl, e_isi_bt, e_isi_li, e_isi_lb, e_isi_ln, e_isi_ls, e_isi_ll, e_isi_lt, e_isi_ti, e_isi_tb, e_isi_tn, e_isi_ts, e_isi_tl, e_isi_tt, e_isi_si, e_isi_sb, e_isi_sn, e_isi_ss, e_isi_sl, e_isi_st, e_up, e_st0, e_st1, e_st2, exists_eq_left, exists_eq_left', exists_eq_right, exists_eq_right', exists_eq', exists_eq, true_and, and_true, and_self, false_and, and_false, exists_and_left, exists_and_right, exists_const, Option.some.injEq, Option.map_some, Option.map_none, Sl.is.injEq, Sl.own.injEq, D.py.injEq, D.ex.injEq, D.rf.injEq, PyData.int.injEq, PyData.bool.injEq, PyData.str.injEq, PyData.list.injEq, PyData.tuple.injEq, List.cons.injEq, if_true, if_false, eq_self, Bool.false_eq_true, Bool.true_eq_false, Bool.not_true, Bool.not_false, Bool.not_not, List.getElem?_cons_zero, List.getElem?_cons_succ, List.set_cons_zero, List.set_cons_succ, List.length_cons, List.length_nil, List.cons_append, List.nil_append, reduceCtorEq, List.replicate_zero, List.replicate_succ, Nat.reduceAdd, Nat.reduceSub, decide_true, decide_false, intsOf_map', blsOf_map', strsOf_map', map_int_inj, map_str_inj, map_bool_inj, map_itD_inj, itD_iff, sh_int, sh_bool, sh_none, sh_itD, sh_nil, sh_ints, sh_its, eqv_int, eqv_bool, eqv_str, eqv_itD, eqv_ints, eqv_strs, eqv_its, eqv_nil, Nat.zero_le, and_assoc, e_in_s]
        exact q
      · have e : w.cps.toList.map (fun c => PyData.bool (decide (c ∈ digs))) = (w.cps.toList.map (fun c => decide (c ∈ digs))).map PyData.bool := by simp
        rw [e]
        simp only [wVar, wOwn, wC, wOp, wT, wChain, wAndT, wOrT, wNotT, wAnd, wOr, wNot, wIf, wNil, wCons, wDisp, wCall, wCall0, wNoPart, wPart, wSl, wRevL, wBlt, wItL, wItT, wItS, wRg1, wRg2, wEnum, wZip, wLR, wLR2, wYes, wM1, wFmt, wJoined, wIsi, wNeg, wNewD, wOwnCat, wPar2, wNext, wSeq, wNever, wSet, wNew, wAug, wExtend, wAppend, wPut, wFrz, wRet, wRetOwn, wRetN, wDrop, wIfS, wgName, wgTup, wUnp, wRaise, bodyEN, wLc, wFor, wSortSet, e_add_i, e_add_s, e_add_l, e_add_t, e_kadd_i, e_kadd_s, e_kadd_l, e_kadd_t, e_sub, e_kt, e_mul_i, e_mul_l, e_kmul_i, e_kmul_l, e_div, e_kdiv, e_mod, e_kmod, e_cmp, e_eq, e_ne, e_keq, e_is_n, e_is_b, e_isn_n, e_isn_b, e_non_n, e_non_l, e_non_t, e_non_i, e_non_s, e_non_b, e_non_x, e_in_l, e_in_t, e_ni_l, e_ni_t, e_kin_l, e_kin_t, e_kin_s, e_ix_l, e_ix_t, e_ix_s, e_kix_l, e_kix_t, e_kix_s, e_sl_l, e_sl_t, e_sl_s, e_len_l, e_len_t, e_len_s, e_klen_l, e_klen_t, e_klen_s, e_kany, e_list_l, e_list_t, e_tup_l, e_tup_t, e_sum, e_max, e_max2, e_min, e_kne, e_kne2, e_all, e_str, e_kstr, e_int, e_kint, e_split, e_ksplit, e_part, e_kpart, e_join, e_kjoin, e_pys0, e_pys1, e_sa0, e_sa1, e_wipe0, e_wipe1, e_js0, e_js1, e_ty_i, e_ty_b, e_ty_n, e_ty_s, e_ty_l, e_ty_t, e_isi_ii, e_isi_ib, e_isi_in, e_isi_is, e_isi_il, e_isi_it, e_isi_bi, e_isi_bb, e_isi_bn, e_isi_bs, e_isi_bl, e_isi_bt, e_isi_li, e_isi_lb, e_isi_ln, e_isi_ls, e_isi_ll, e_isi_lt, e_isi_ti, e_isi_tb, e_isi_tn, e_isi_ts, e_isi_tl, e_isi_tt, e_isi_si, e_isi_sb, e_isi_sn, e_isi_ss, e_isi_sl, e_isi_st, e_up, e_st0, e_st1, e_st2, exists_eq_left, exists_eq_left', exists_eq_right, exists_eq_right', exists_eq', exists_eq, true_and, and_true, and_self, false_and, and_false, exists_and_left, exists_and_right, exists_const, Option.some.injEq, Option.map_some, Option.map_none, Sl.is.injEq, Sl.own.injEq, D.py.injEq, D.ex.injEq, D.rf.injEq, PyData.int.injEq, PyData.bool.injEq, PyData.str.injEq, PyData.list.injEq, PyData.tuple.injEq, List.cons.injEq, if_true, if_false, eq_self, Bool.false_eq_true, Bool.true_eq_false, Bool.not_true, Bool.not_false, Bool.not_not, List.getElem?_cons_zero, List.getElem?_cons_succ, List.set_cons_zero, List.set_cons_succ, List.length_cons, List.length_nil, List.cons_append, List.nil_append, reduceCtorEq, List.replicate_zero, List.replicate_succ, Nat.reduceAdd, Nat.reduceSub, decide_true, decide_false, intsOf_map', blsOf_map', strsOf_map', map_int_inj, map_str_inj, map_bool_inj, map_itD_inj, itD_iff, sh_int, sh_bool, sh_none, sh_itD, sh_nil, sh_ints, sh_its, eqv_int, eqv_bool, eqv_str, eqv_itD, eqv_ints, eqv_strs, eqv_its, eqv_nil, Nat.zero_le, and_assoc, List.all_map, Function.comp_def, id]
        cases h3 : w.cps.toList.all fun c => decide (c ∈ digs) with
        | false =>
          simp only [wVar, wOwn, wC, wOp, wT, wChain, wAndT, wOrT, wNotT, wAnd, wOr, wNot, wIf, wNil, wCons, wDisp, wCall, wCall0, wNoPart, wPart, wSl, wRevL, wBlt, wItL, wItT, wItS, wRg1, wRg2, wEnum, wZip, wLR, wLR2, wYes, wM1, wFmt, wJoined, wIsi, wNeg, wNewD, wOwnCat, wPar2, wNext, wSeq, wNever, wSet, wNew, wAug, wExtend, wAppend, wPut, wFrz, wRet, wRetOwn, wRetN, wDrop, wIfS, wgName, wgTup, wUnp, wRaise, bodyEN, wLc, wFor, wSortSet, e_add_i, e_add_s, e_add_l, e_add_t, e_kadd_i, e_kadd_s, e_kadd_l, e_kadd_t, e_sub, e_kt, e_mul_i, e_mul_l, e_kmul_i, e_kmul_l, e_div, e_kdiv, e_mod, e_kmod, e_cmp, e_eq, e_ne, e_keq, e_is_n, e_is_b, e_isn_n, e_isn_b, e_non_n, e_non_l, e_non_t, e_non_i, e_non_s, e_non_b, e_non_x, e_in_l, e_in_t, e_ni_l, e_ni_t, e_kin_l, e_kin_t, e_kin_s, e_ix_l, e_ix_t, e_ix_s, e_kix_l, e_kix_t, e_kix_s, e_sl_l, e_sl_t, e_sl_s, e_len_l, e_len_t, e_len_s, e_klen_l, e_klen_t, e_klen_s, e_kany, e_list_l, e_list_t, e_tup_l, e_tup_t, e_sum, e_max, e_max2, e_min, e_kne, e_kne2, e_all, e_str, e_kstr, e_int, e_kint, e_split, e_ksplit, e_part, e_kpart, e_join, e_kjoin, e_pys0, e_pys1, e_sa0, e_sa1, e_wipe0, e_wipe1, e_js0, e_js1, e_ty_i, e_ty_b, e_ty_n, e_ty_s, e_ty_l, e_ty_t, e_isi_ii, e_isi_ib, e_isi_in, e_isi_is, e_isi_il, e_isi_it, e_isi_bi, e_isi_bb, e_isi_bn, e_isi_bs, e_isi_bl, e_isi_bt, e_isi_li, e_isi_lb, e_isi_ln, e_isi_ls, e_isi_ll, e_isi_lt, e_isi_ti, e_isi_tb, e_isi_tn, e_isi_ts, e_isi_tl, e_isi_tt, e_isi_si, e_isi_sb, e_isi_sn, e_isi_ss, e_isi_sl, e_isi_st, e_up, e_st0, e_st1, e_st2, exists_eq_left, exists_eq_left', exists_eq_right, exists_eq_right', exists_eq', exists_eq, true_and, and_true, and_self, false_and, and_false, exists_and_left, exists_and_right, exists_const, Option.some.injEq, Option.map_some, Option.map_none, Sl.is.injEq, Sl.own.injEq, D.py.injEq, D.ex.injEq, D.rf.injEq, PyData.int.injEq, PyData.bool.injEq, PyData.str.injEq, PyData.list.injEq, PyData.tuple.injEq, List.cons.injEq, if_true, if_false, eq_self, Bool.false_eq_true, Bool.true_eq_false, Bool.not_true, Bool.not_false, Bool.not_not, List.getElem?_cons_zero, List.getElem?_cons_succ, List.set_cons_zero, List.set_cons_succ, List.length_cons, List.length_nil, List.cons_append, List.nil_append, reduceCtorEq, List.replicate_zero, List.replicate_succ, Nat.reduceAdd, Nat.reduceSub, decide_true, decide_false, intsOf_map', blsOf_map', strsOf_map', map_int_inj, map_str_inj, map_bool_inj, map_itD_inj, itD_iff, sh_int, sh_bool, sh_none, sh_itD, sh_nil, sh_ints, sh_its, eqv_int, eqv_bool, eqv_str, eqv_itD, eqv_ints, eqv_strs, eqv_its, eqv_nil, Nat.zero_le, and_assoc]
          have e : numberIn w = 0 := Classical.byContradiction fun q => by
            have h4 := (numberIn_len q).2.2
            have : (w.cps.toList.all fun c => decide (c ∈ digs)) = true := List.all_eq_true.mpr fun c hc => decide_eq_true (h4 c hc)
            rw [h3] at this
            cases this
          rw [e] at n
          exact n
        | true =>
          have hm : w.cps.toList ∈ digW := digW_of (by rw [← hl]; simp at h1; omega) (by rw [← hl]; simp at h2; omega) fun c hc => of_decide_eq_true (List.all_eq_true.mp h3 c hc)
          have hc := List.all_eq_true.mp num_all _ hm
          have ew : (⟨w.cps.toList.toArray⟩ : Str) = w := TL.mk_tl w
          unfold numChk at hc
          rw [ew] at hc
          cases hi : PySem.intText? w with
          | none => rw [hi] at hc; cases hc
          | some k =>
            rw [hi] at hc
            simp only [Bool.and_eq_true, decide_eq_true_eq] at hc
            obtain ⟨⟨c1, c2⟩, c3⟩ := hc
            rw [c3] at n
            have l640 : w.length ≤ 640 := by simp at h2; omega
            simp only [wVar, wOwn, wC, wOp, wT, wChain, wAndT, wOrT, wNotT, wAnd, wOr, wNot, wIf, wNil, wCons, wDisp, wCall, wCall0, wNoPart, wPart, wSl, wRevL, wBlt, wItL, wItT, wItS, wRg1, wRg2, wEnum, wZip, wLR, wLR2, wYes, wM1, wFmt, wJoined, wIsi, wNeg, wNewD, wOwnCat, wPar2, wNext, wSeq, wNever, wSet, wNew, wAug, wExtend, wAppend, wPut, wFrz, wRet, wRetOwn, wRetN, wDrop, wIfS, wgName, wgTup, wUnp, wRaise, bodyEN, wLc, wFor, wSortSet, e_add_i, e_add_s, e_add_l, e_add_t, e_kadd_i, e_kadd_s, e_kadd_l, e_kadd_t, e_sub, e_kt, e_mul_i, e_mul_l, e_kmul_i, e_kmul_l, e_div, e_kdiv, e_mod, e_kmod, e_cmp, e_eq, e_ne, e_keq, e_is_n, e_is_b, e_isn_n, e_isn_b, e_non_n, e_non_l, e_non_t, e_non_i, e_non_s, e_non_b, e_non_x, e_in_l, e_in_t, e_ni_l, e_ni_t, e_kin_l, e_kin_t, e_kin_s, e_ix_l, e_ix_t, e_ix_s, e_kix_l, e_kix_t, e_kix_s, e_sl_l, e_sl_t, e_sl_s, e_len_l, e_len_t, e_len_s, e_klen_l, e_klen_t, e_klen_s, e_kany, e_list_l, e_list_t, e_tup_l, e_tup_t, e_sum, e_max, e_max2, e_min, e_kne, e_kne2, e_all, e_str, e_kstr, e_int, e_kint, e_split, e_ksplit, e_part, e_kpart, e_join, e_kjoin, e_pys0, e_pys1, e_sa0, e_sa1, e_wipe0, e_wipe1, e_js0, e_js1, e_ty_i, e_ty_b, e_ty_n, e_ty_s, e_ty_l, e_ty_t, e_isi_ii, e_isi_ib, e_isi_in, e_isi_is, e_isi_il, e_isi_it, e_isi_bi, e_isi_bb, e_isi_bn, e_isi_bs, e_isi_bl, e_isi_bt, e_isi_li, e_isi_lb, e_isi_ln, e_isi_ls, e_isi_ll, e_isi_lt, e_isi_ti, e_isi_tb, e_isi_tn, e_isi_ts, e_isi_tl, e_isi_tt, e_isi_si, e_isi_sb, e_isi_sn, e_isi_ss, e_isi_sl, e_isi_st, e_up, e_st0, e_st1, e_st2, exists_eq_left, exists_eq_left', exists_eq_right, exists_eq_right', exists_eq', exists_eq, true_and, and_true, and_self, false_and, and_false, exists_and_left, exists_and_right, exists_const, Option.some.injEq, Option.map_some, Option.map_none, Sl.is.injEq, Sl.own.injEq, D.py.injEq, D.ex.injEq, D.rf.injEq, PyData.int.injEq, PyData.bool.injEq, PyData.str.injEq, PyData.list.injEq, PyData.tuple.injEq, List.cons.injEq, if_true, if_false, eq_self, Bool.false_eq_true, Bool.true_eq_false, Bool.not_true, Bool.not_false, Bool.not_not, List.getElem?_cons_zero, List.getElem?_cons_succ, List.set_cons_zero, List.set_cons_succ, List.length_cons, List.length_nil, List.cons_append, List.nil_append, reduceCtorEq, List.replicate_zero, List.replicate_succ, Nat.reduceAdd, Nat.reduceSub, decide_true, decide_false, intsOf_map', blsOf_map', strsOf_map', map_int_inj, map_str_inj, map_bool_inj, map_itD_inj, itD_iff, sh_int, sh_bool, sh_none, sh_itD, sh_nil, sh_ints, sh_its, eqv_int, eqv_bool, eqv_str, eqv_itD, eqv_ints, eqv_strs, eqv_its, eqv_nil, Nat.zero_le, and_assoc, l640, c1, sh_str c2, ok.sh]
            by_cases hs : Str.ofString (toString k) = w
            · simp only [hs, wVar, wOwn, wC, wOp, wT, wChain, wAndT, wOrT, wNotT, wAnd, wOr, wNot, wIf, wNil, wCons, wDisp, wCall, wCall0, wNoPart, wPart, wSl, wRevL, wBlt, wItL, wItT, wItS, wRg1, wRg2, wEnum, wZip, wLR, wLR2, wYes, wM1, wFmt, wJoined, wIsi, wNeg, wNewD, wOwnCat, wPar2, wNext, wSeq, wNever, wSet, wNew, wAug, wExtend, wAppend, wPut, wFrz, wRet, wRetOwn, wRetN, wDrop, wIfS, wgName, wgTup, wUnp, wRaise, bodyEN, wLc, wFor, wSortSet, e_add_i, e_add_s, e_add_l, e_add_t, e_kadd_i, e_kadd_s, e_kadd_l, e_kadd_t, e_sub, e_kt, e_mul_i, e_mul_l, e_kmul_i, e_kmul_l, e_div, e_kdiv, e_mod, e_kmod, e_cmp, e_eq, e_ne, e_keq, e_is_n, e_is_b, e_isn_n, e_isn_b, e_non_n, e_non_l, e_non_t, e_non_i, e_non_s, e_non_b, e_non_x, e_in_l, e_in_t, e_ni_l, e_ni_t, e_kin_l, e_kin_t, e_kin_s, e_ix_l, e_ix_t, e_ix_s, e_kix_l, e_kix_t, e_kix_s, e_sl_l, e_sl_t, e_sl_s, e_len_l, e_len_t, e_len_s, e_klen_l, e_klen_t, e_klen_s, e_kany, e_list_l, e_list_t, e_tup_l, e_tup_t, e_sum, e_max, e_max2, e_min, e_kne, e_kne2, e_all, e_str, e_kstr, e_int, e_kint, e_split, e_ksplit, e_part, e_kpart, e_join, e_kjoin, e_pys0, e_pys1, e_sa0, e_sa1, e_wipe0, e_wipe1, e_js0, e_js1, e_ty_i, e_ty_b, e_ty_n, e_ty_s, e_ty_l, e_ty_t, e_isi_ii, e_isi_ib, e_isi_in, e_isi_is, e_isi_il, e_isi_it, e_isi_bi, e_isi_bb, e_isi_bn, e_isi_bs, e_isi_bl, e_isi_bt, e_isi_li, e_isi_lb, e_isi_ln, e_isi_ls, e_isi_ll, e_isi_lt, e_isi_ti, e_isi_tb, e_isi_tn, e_isi_ts, e_isi_tl, e_isi_tt, e_isi_si, e_isi_sb, e_isi_sn, e_isi_ss, e_isi_sl, e_isi_st, e_up, e_st0, e_st1, e_st2, exists_eq_left, exists_eq_left', exists_eq_right, exists_eq_right', exists_eq', exists_eq, true_and, and_true, and_self, false_and, and_false, exists_and_left, exists_and_right, exists_const, Option.some.injEq, Option.map_some, Option.map_none, Sl.is.injEq, Sl.own.injEq, D.py.injEq, D.ex.injEq, D.rf.injEq, PyData.int.injEq, PyData.bool.injEq, PyData.str.injEq, PyData.list.injEq, PyData.tuple.injEq, List.cons.injEq, if_true, if_false, eq_self, Bool.false_eq_true, Bool.true_eq_false, Bool.not_true, Bool.not_false, Bool.not_not, List.getElem?_cons_zero, List.getElem?_cons_succ, List.set_cons_zero, List.set_cons_succ, List.length_cons, List.length_nil, List.cons_append, List.nil_append, reduceCtorEq, List.replicate_zero, List.replicate_succ, Nat.reduceAdd, Nat.reduceSub, decide_true, decide_false, intsOf_map', blsOf_map', strsOf_map', map_int_inj, map_str_inj, map_bool_inj, map_itD_inj, itD_iff, sh_int, sh_bool, sh_none, sh_itD, sh_nil, sh_ints, sh_its, eqv_int, eqv_bool, eqv_str, eqv_itD, eqv_ints, eqv_strs, eqv_its, eqv_nil, Nat.zero_le, and_assoc] at n ⊢
              cases hk : decide (k ≤ 10) with
              | true =>
                simp only [wVar, wOwn, wC, wOp, wT, wChain, wAndT, wOrT, wNotT, wAnd, wOr, wNot, wIf, wNil, wCons, wDisp, wCall, wCall0, wNoPart, wPart, wSl, wRevL, wBlt, wItL, wItT, wItS, wRg1, wRg2, wEnum, wZip, wLR, wLR2, wYes, wM1, wFmt, wJoined, wIsi, wNeg, wNewD, wOwnCat, wPar2, wNext, wSeq, wNever, wSet, wNew, wAug, wExtend, wAppend, wPut, wFrz, wRet, wRetOwn, wRetN, wDrop, wIfS, wgName, wgTup, wUnp, wRaise, bodyEN, wLc, wFor, wSortSet, e_add_i, e_add_s, e_add_l, e_add_t, e_kadd_i, e_kadd_s, e_kadd_l, e_kadd_t, e_sub, e_kt, e_mul_i, e_mul_l, e_kmul_i, e_kmul_l, e_div, e_kdiv, e_mod, e_kmod, e_cmp, e_eq, e_ne, e_keq, e_is_n, e_is_b, e_isn_n, e_isn_b, e_non_n, e_non_l, e_non_t, e_non_i, e_non_s, e_non_b, e_non_x, e_in_l, e_in_t, e_ni_l, e_ni_t, e_kin_l, e_kin_t, e_kin_s, e_ix_l, e_ix_t, e_ix_s, e_kix_l, e_kix_t, e_kix_s, e_sl_l, e_sl_t, e_sl_s, e_len_l, e_len_t, e_len_s, e_klen_l, e_klen_t, e_klen_s, e_kany, e_list_l, e_list_t, e_tup_l, e_tup_t, e_sum, e_max, e_max2, e_min, e_kne, e_kne2, e_all, e_str, e_kstr, e_int, e_kint, e_split, e_ksplit, e_part, e_kpart, e_join, e_kjoin, e_pys0, e_pys1, e_sa0, e_sa1, e_wipe0, e_wipe1, e_js0, e_js1, e_ty_i, e_ty_b, e_ty_n, e_ty_s, e_ty_l, e_ty_t, e_isi_ii, e_isi_ib, e_isi_in, e_isi_is, e_isi_il, e_isi_it, e_isi_bi, e_isi_bb, e_isi_bn, e_isi_bs, e_isi_bl, e_isi_bt, e_isi_li, e_isi_lb, e_isi_ln, e_isi_ls, e_isi_ll, e_isi_lt, e_isi_ti, e_isi_tb, e_isi_tn, e_isi_ts, e_isi_tl, e_isi_tt, e_isi_si, e_isi_sb, e_isi_sn, e_isi_ss, e_isi_sl, e_isi_st, e_up, e_st0, e_st1, e_st2, exists_eq_left, exists_eq_left', exists_eq_right, exists_eq_right', exists_eq', exists_eq, true_and, and_true, and_self, false_and, and_false, exists_and_left, exists_and_right, exists_const, Option.some.injEq, Option.map_some, Option.map_none, Sl.is.injEq, Sl.own.injEq, D.py.injEq, D.ex.injEq, D.rf.injEq, PyData.int.injEq, PyData.bool.injEq, PyData.str.injEq, PyData.list.injEq, PyData.tuple.injEq, List.cons.injEq, if_true, if_false, eq_self, Bool.false_eq_true, Bool.true_eq_false, Bool.not_true, Bool.not_false, Bool.not_not, List.getElem?_cons_zero, List.getElem?_cons_succ, List.set_cons_zero, List.set_cons_succ, List.length_cons, List.length_nil, List.cons_append, List.nil_append, reduceCtorEq, List.replicate_zero, List.replicate_succ, Nat.reduceAdd, Nat.reduceSub, decide_true, decide_false, intsOf_map', blsOf_map', strsOf_map', map_int_inj, map_str_inj, map_bool_inj, map_itD_inj, itD_iff, sh_int, sh_bool, sh_none, sh_itD, sh_nil, sh_ints, sh_its, eqv_int, eqv_bool, eqv_str, eqv_itD, eqv_ints, eqv_strs, eqv_its, eqv_nil, Nat.zero_le, and_assoc]
                rw [if_pos (of_decide_eq_true hk)] at n
                exact n
              | false =>
                simp only [wVar, wOwn, wC, wOp, wT, wChain, wAndT, wOrT, wNotT, wAnd, wOr, wNot, wIf, wNil, wCons, wDisp, wCall, wCall0, wNoPart, wPart, wSl, wRevL, wBlt, wItL, wItT, wItS, wRg1, wRg2, wEnum, wZip, wLR, wLR2, wYes, wM1, wFmt, wJoined, wIsi, wNeg, wNewD, wOwnCat, wPar2, wNext, wSeq, wNever, wSet, wNew, wAug, wExtend, wAppend, wPut, wFrz, wRet, wRetOwn, wRetN, wDrop, wIfS, wgName, wgTup, wUnp, wRaise, bodyEN, wLc, wFor, wSortSet, e_add_i, e_add_s, e_add_l, e_add_t, e_kadd_i, e_kadd_s, e_kadd_l, e_kadd_t, e_sub, e_kt, e_mul_i, e_mul_l, e_kmul_i, e_kmul_l, e_div, e_kdiv, e_mod, e_kmod, e_cmp, e_eq, e_ne, e_keq, e_is_n, e_is_b, e_isn_n, e_isn_b, e_non_n, e_non_l, e_non_t, e_non_i, e_non_s, e_non_b, e_non_x, e_in_l, e_in_t, e_ni_l, e_ni_t, e_kin_l, e_kin_t, e_kin_s, e_ix_l, e_ix_t, e_ix_s, e_kix_l, e_kix_t, e_kix_s, e_sl_l, e_sl_t, e_sl_s, e_len_l, e_len_t, e_len_s, e_klen_l, e_klen_t, e_klen_s, e_kany, e_list_l, e_list_t, e_tup_l, e_tup_t, e_sum, e_max, e_max2, e_min, e_kne, e_kne2, e_all, e_str, e_kstr, e_int, e_kint, e_split, e_ksplit, e_part, e_kpart, e_join, e_kjoin, e_pys0, e_pys1, e_sa0, e_sa1, e_wipe0, e_wipe1, e_js0, e_js1, e_ty_i, e_ty_b, e_ty_n, e_ty_s, e_ty_l, e_ty_t, e_isi_ii, e_isi_ib, e_isi_in, e_isi_is, e_isi_il, e_isi_it, e_isi_bi, e_isi_bb, e_isi_bn, e_isi_bs, e_isi_bl, e_isi_bt, e_isi_li, e_isi_lb, e_isi_ln, e_isi_ls, e_isi_ll, e_isi_lt, e_isi_ti, e_isi_tb, e_isi_tn, e_isi_ts, e_isi_tl, e_isi_tt, e_isi_si, e_isi_sb, e_isi_sn, e_isi_ss, e_isi_sl, e_isi_st, e_up, e_st0, e_st1, e_st2, exists_eq_left, exists_eq_left', exists_eq_right, exists_eq_right', exists_eq', exists_eq, true_and, and_true, and_self, false_and, and_false, exists_and_left, exists_and_right, exists_const, Option.some.injEq, Option.map_some, Option.map_none, Sl.is.injEq, Sl.own.injEq, D.py.injEq, D.ex.injEq, D.rf.injEq, PyData.int.injEq, PyData.bool.injEq, PyData.str.injEq, PyData.list.injEq, PyData.tuple.injEq, List.cons.injEq, if_true, if_false, eq_self, Bool.false_eq_true, Bool.true_eq_false, Bool.not_true, Bool.not_false, Bool.not_not, List.getElem?_cons_zero, List.getElem?_cons_succ, List.set_cons_zero, List.set_cons_succ, List.length_cons, List.length_nil, List.cons_append, List.nil_append, reduceCtorEq, List.replicate_zero, List.replicate_succ, Nat.reduceAdd, Nat.reduceSub, decide_true, decide_false, intsOf_map', blsOf_map', strsOf_map', map_int_inj, map_str_inj, map_bool_inj, map_itD_inj, itD_iff, sh_int, sh_bool, sh_none, sh_itD, sh_nil, sh_ints, sh_its, eqv_int, eqv_bool, eqv_str, eqv_itD, eqv_ints, eqv_strs, eqv_its, eqv_nil, Nat.zero_le, and_assoc]
                rw [if_neg (of_decide_eq_false hk)] at n
                exact n
            · simp only [hs, wVar, wOwn, wC, wOp, wT, wChain, wAndT, wOrT, wNotT, wAnd, wOr, wNot, wIf, wNil, wCons, wDisp, wCall, wCall0, wNoPart, wPart, wSl, wRevL, wBlt, wItL, wItT, wItS, wRg1, wRg2, wEnum, wZip, wLR, wLR2, wYes, wM1, wFmt, wJoined, wIsi, wNeg, wNewD, wOwnCat, wPar2, wNext, wSeq, wNever, wSet, wNew, wAug, wExtend, wAppend, wPut, wFrz, wRet, wRetOwn, wRetN, wDrop, wIfS, wgName, wgTup, wUnp, wRaise, bodyEN, wLc, wFor, wSortSet, e_add_i, e_add_s, e_add_l, e_add_t, e_kadd_i, e_kadd_s, e_kadd_l, e_kadd_t, e_sub, e_kt, e_mul_i, e_mul_l, e_kmul_i, e_kmul_l, e_div, e_kdiv, e_mod, e_kmod, e_cmp, e_eq, e_ne, e_keq, e_is_n, e_is_b, e_isn_n, e_isn_b, e_non_n, e_non_l, e_non_t, e_non_i, e_non_s, e_non_b, e_non_x, e_in_l, e_in_t, e_ni_l, e_ni_t, e_kin_l, e_kin_t, e_kin_s, e_ix_l, e_ix_t, e_ix_s, e_kix_l, e_kix_t, e_kix_s, e_sl_l, e_sl_t, e_sl_s, e_len_l, e_len_t, e_len_s, e_klen_l, e_klen_t, e_klen_s, e_kany, e_list_l, e_list_t, e_tup_l, e_tup_t, e_sum, e_max, e_max2, e_min, e_kne, e_kne2, e_all, e_str, e_kstr, e_int, e_kint, e_split, e_ksplit, e_part, e_kpart, e_join, e_kjoin, e_pys0, e_pys1, e_sa0, e_sa1, e_wipe0, e_wipe1, e_js0, e_js1, e_ty_i, e_ty_b, e_ty_n, e_ty_s, e_ty_l, e_ty_t, e_isi_ii, e_isi_ib, e_isi_in, e_isi_is, e_isi_il, e_isi_it, e_isi_bi, e_isi_bb, e_isi_bn, e_isi_bs, e_isi_bl, e_isi_bt, e_isi_li, e_isi_lb, e_isi_ln, e_isi_ls, e_isi_ll, e_isi_lt, e_isi_ti, e_isi_tb, e_isi_tn, e_isi_ts, e_isi_tl, e_isi_tt, e_isi_si, e_isi_sb, e_isi_sn, e_isi_ss, e_isi_sl, e_isi_st, e_up, e_st0, e_st1, e_st2, exists_eq_left, exists_eq_left', exists_eq_right, exists_eq_right', exists_eq', exists_eq, true_and, and_true, and_self, false_and, and_false, exists_and_left, exists_and_right, exists_const, Option.some.injEq, Option.map_some, Option.map_none, Sl.is.injEq, Sl.own.injEq, D.py.injEq, D.ex.injEq, D.rf.injEq, PyData.int.injEq, PyData.bool.injEq, PyData.str.injEq, PyData.list.injEq, PyData.tuple.injEq, List.cons.injEq, if_true, if_false, eq_self, Bool.false_eq_true, Bool.true_eq_false, Bool.not_true, Bool.not_false, Bool.not_not, List.getElem?_cons_zero, List.getElem?_cons_succ, List.set_cons_zero, List.set_cons_succ, List.length_cons, List.length_nil, List.cons_append, List.nil_append, reduceCtorEq, List.replicate_zero, List.replicate_succ, Nat.reduceAdd, Nat.reduceSub, decide_true, decide_false, intsOf_map', blsOf_map', strsOf_map', map_int_inj, map_str_inj, map_bool_inj, map_itD_inj, itD_iff, sh_int, sh_bool, sh_none, sh_itD, sh_nil, sh_ints, sh_its, eqv_int, eqv_bool, eqv_str, eqv_itD, eqv_ints, eqv_strs, eqv_its, eqv_nil, Nat.zero_le, and_assoc] at n ⊢
              exact n
/-! ### an item's text -/
def itemIn (z : Str) : Option Itm := itemsAll.find? fun q => decide (textOf q = z)
/-- as the code looks -/
def itemF (z : Str) (a b c : Int) : Option Itm := if itemOk (a, b, c) = true ∧ textOf (a, b, c) = z then some (a, b, c) else none
def itemC (z : Str) : Option Itm :=
  if (Txt.partition z "/").2.1 = "" then
    (if (Txt.partition (Txt.partition z "/").1 "-").2.1 = "" then itemF z (numberIn (Txt.partition (Txt.partition z "/").1 "-").1) (numberIn (Txt.partition (Txt.partition z "/").1 "-").1) 1
     else itemF z (numberIn (Txt.partition (Txt.partition z "/").1 "-").1) (numberIn (Txt.partition (Txt.partition z "/").1 "-").2.2) 1)
  else if (Txt.partition (Txt.partition z "/").1 "-").2.1 = "" then none
  else if numberIn (Txt.partition z "/").2.2 < 2 then none
  else itemF z (numberIn (Txt.partition (Txt.partition z "/").1 "-").1) (numberIn (Txt.partition (Txt.partition z "/").1 "-").2.2) (numberIn (Txt.partition z "/").2.2)
theorem itemF_some {z : Str} {a b c : Int} {q : Itm} (h : itemF z a b c = some q) : itemOk q = true ∧ textOf q = z := by
  unfold itemF at h
  split at h
  · rename_i hq
    cases h
    exact hq
  · cases h
theorem itemC_all : ∀ q ∈ itemsAll, itemC (textOf q) = some q := by decide +kernel
theorem item_texts : ∀ q ∈ itemsAll, PyData.strOk (textOf q) = true ∧ (textOf q).length ≤ 7 ∧ 1 ≤ (textOf q).length ∧ 44 ∉ TL.tl (textOf q) := by decide +kernel
theorem itemC_some {z : Str} {q : Itm} (h : itemC z = some q) : itemOk q = true ∧ textOf q = z := by
  unfold itemC at h
  split at h
  · split at h
    · exact itemF_some h
    · exact itemF_some h
  · split at h
    · cases h
    · split at h
      · cases h
      · exact itemF_some h
theorem textOf_inj {p q : Itm} (hp : itemOk p = true) (hq : itemOk q = true) (h : textOf p = textOf q) : p = q := by
  have h1 := itemC_all p (item_mem.mp hp)
  have h2 := itemC_all q (item_mem.mp hq)
  rw [h, h2] at h1
  exact (Option.some.inj h1).symm
theorem itemIn_some {z : Str} {q : Itm} : itemIn z = some q ↔ itemOk q = true ∧ textOf q = z := by
  constructor
  · intro h
    exact ⟨item_mem.mpr (List.mem_of_find?_eq_some h), of_decide_eq_true (List.find?_some (p := fun q => decide (textOf q = z)) h)⟩
  · rintro ⟨h1, rfl⟩
    cases h : itemIn (textOf q) with
    | none =>
      have := List.find?_eq_none.mp h q (item_mem.mp h1)
      simp at this
    | some p =>
      have p1 := List.mem_of_find?_eq_some h
      have p2 : textOf p = textOf q := of_decide_eq_true (List.find?_some (p := fun p => decide (textOf p = textOf q)) h)
      rw [textOf_inj (item_mem.mpr p1) h1 p2]
theorem itemC_eq (z : Str) : itemC z = itemIn z := by
  cases h : itemC z with
  | some q => exact (itemIn_some.mpr (itemC_some h)).symm
  | none =>
    cases h2 : itemIn z with
    | none => rfl
    | some q =>
      obtain ⟨h3, rfl⟩ := itemIn_some.mp h2
      rw [itemC_all q (item_mem.mp h3)] at h
      cases h
def optI : Option Itm → PyData
  | some q => itD q
  | none => .none
def sp_item_in : Spec0 := fun ds N _ => ∃ z : Str, ds = [.py (.str z)] ∧ TOk z ∧ N (.py (optI (itemIn z)))
def w_item_in : WS Unit :=
  wSeq (wUnp [3, 4, 5] (wM1 fPart kPart (wVar 0) (wC (.str "/")))) (wSeq (wUnp [6, 7, 8] (wM1 fPart kPart (wVar 3) (wC (.str "-")))) (wSeq (wIfS (wAndT (wT (wOp fNe kEq (wVar 4) (wC (.str "")))) (wOrT (wT (wOp fEq kEq (wVar 7) (wC (.str "")))) (wT (wOp fLt kTrue (wCall0 sp_number_in (wCons (wVar 5) (wNil))) (wC (.int 2)))))) (wRet (wC .none)) (wNext)) (wSeq (wSet 1 (wIf (wT (wOp fNe kEq (wVar 4) (wC (.str "")))) (wCall0 sp_number_in (wCons (wVar 5) (wNil))) (wC (.int 1)))) (wSeq (wSet 2 (wDisp .tuple (wCons (wCall0 sp_number_in (wCons (wVar 6) (wNil))) (wCons (wCall0 sp_number_in (wCons (wIf (wT (wOp fNe kEq (wVar 7) (wC (.str "")))) (wVar 8) (wVar 6)) (wNil))) (wCons (wVar 1) (wNil)))))) (wSeq (wIfS (wOrT (wNotT (wT (wCall0 sp_is_item (wCons (wVar 2) (wNil))))) (wT (wOp fNe kEq (wCall0 sp_text_of (wCons (wVar 2) (wNil))) (wVar 0)))) (wRet (wC .none)) (wNext)) (wRet (wVar 2)))))))
theorem strOk_e : PyData.strOk (Str.ofString "") = true := by decide +kernel
theorem isItemD_it (q : Itm) : isItemD (itD q) = itemOk q := rfl
theorem sz_itD (q : Itm) : Sz (itD q) := by
  show 3 ≤ 1000000
  omega
theorem sz3 (a b c : PyData) : Sz (.tuple [a, b, c]) = True := eq_true (show 3 ≤ 1000000 by omega)
theorem isItem3 (a b c : Int) : isItemD (.tuple [.int a, .int b, .int c]) = itemOk (a, b, c) := rfl
theorem line3 : (3 ≤ sizeLine) = True := eq_true (by decide)
theorem fin_item {N : D → Unit → Prop} {θ : Unit} {z : Str} {a b c : Int} (ok : TOk z) (n : N (.py (optI (itemF z a b c))) ()) : if (!itemOk (a, b, c)) = true then N (.py .none) θ else ∃ q : Itm, a = q.1 ∧ b = q.2.1 ∧ c = q.2.2 ∧ itemOk q = true ∧
    SeqAt.shaped (.str (textOf q)) = true ∧ SeqAt.shaped (.str z) = true ∧ if (!decide (textOf q = z)) = true then N (.py .none) θ else N (.py (.tuple [.int a, .int b, .int c])) θ := by
  unfold itemF at n
  cases hk : itemOk (a, b, c) with
  | false =>
    rw [if_neg (by rw [hk]; simp)] at n
    exact n
  | true =>
    refine ⟨(a, b, c), rfl, rfl, rfl, hk, sh_str (item_texts _ (item_mem.mp hk)).1, ok.sh, ?_⟩
    by_cases ht : textOf (a, b, c) = z
    · rw [if_pos ⟨hk, ht⟩] at n
      simp only [ht, wVar, wOwn, wC, wOp, wT, wChain, wAndT, wOrT, wNotT, wAnd, wOr, wNot, wIf, wNil, wCons, wDisp, wCall, wCall0, wNoPart, wPart, wSl, wRevL, wBlt, wItL, wItT, wItS, wRg1, wRg2, wEnum, wZip, wLR, wLR2, wYes, wM1, wFmt, wJoined, wIsi, wNeg, wNewD, wOwnCat, wPar2, wNext, wSeq, wNever, wSet, wNew, wAug, wExtend, wAppend, wPut, wFrz, wRet, wRetOwn, wRetN, wDrop, wIfS, wgName, wgTup, wUnp, wRaise, bodyEN, wLc, wFor, wSortSet, e_add_i, e_add_s, e_add_l, e_add_t, e_kadd_i, e_kadd_s, e_kadd_l, e_kadd_t, e_sub, e_kt, e_mul_i, e_mul_l, e_kmul_i, e_kmul_l, e_div, e_kdiv, e_mod, e_kmod, e_cmp, e_eq, e_ne, e_keq, e_is_n, e_is_b, e_isn_n, e_isn_b, e_non_n, e_non_l, e_non_t, e_non_i, e_non_s, e_non_b, e_non_x, e_in_l, e_in_t, e_ni_l, e_ni_t, e_kin_l, e_kin_t, e_kin_s, e_ix_l, e_ix_t, e_ix_s, e_kix_l, e_kix_t, e_kix_s, e_sl_l, e_sl_t, e_sl_s, e_len_l, e_len_t, e_len_s, e_klen_l, e_klen_t, e_klen_s, e_kany, e_list_l, e_list_t, e_tup_l, e_tup_t, e_sum, e_max, e_max2, e_min, e_kne, e_kne2, e_all, e_str, e_kstr, e_int, e_kint, e_split, e_ksplit, e_part, e_kpart, e_join, e_kjoin, e_pys0, e_pys1, e_sa0, e_sa1, e_wipe0, e_wipe1, e_js0, e_js1, e_ty_i, e_ty_b, e_ty_n, e_ty_s, e_ty_l, e_ty_t, e_isi_ii, e_isi_ib, e_isi_in, e_isi_is, e_isi_il, e_isi_it, e_isi_bi, e_isi_bb, e_isi_bn, e_isi_bs, e_isi_bl, e_isi_bt, e_isi_li, e_isi_lb, e_isi_ln, e_isi_ls, e_isi_ll, e_isi_lt, e_isi_ti, e_isi_tb, e_isi_tn, e_isi_ts, e_isi_tl, e_isi_tt, e_isi_si, e_isi_sb, e_isi_sn, e_isi_ss, e_isi_sl, e_isi_st, e_up, e_st0, e_st1, e_st2, exists_eq_left, exists_eq_left', exists_eq_right, exists_eq_right', exists_eq', exists_eq, true_and, and_true, and_self, false_and, and_false, exists_and_left, exists_and_right, exists_const, Option.some.injEq, Option.map_some, Option.map_none, Sl.is.injEq, Sl.own.injEq, D.py.injEq, D.ex.injEq, D.rf.injEq, PyData.int.injEq, PyData.bool.injEq, PyData.str.injEq, PyData.list.injEq, PyData.tuple.injEq, List.cons.injEq, if_true, if_false, eq_self, Bool.false_eq_true, Bool.true_eq_false, Bool.not_true, Bool.not_false, Bool.not_not, List.getElem?_cons_zero, List.getElem?_cons_succ, List.set_cons_zero, List.set_cons_succ, List.length_cons, List.length_nil, List.cons_append, List.nil_append, reduceCtorEq, List.replicate_zero, List.replicate_succ, Nat.reduceAdd, Nat.reduceSub, decide_true, decide_false, intsOf_map', blsOf_map', strsOf_map', map_int_inj, map_str_inj, map_bool_inj, map_itD_inj, itD_iff, sh_int, sh_bool, sh_none, sh_itD, sh_nil, sh_ints, sh_its, eqv_int, eqv_bool, eqv_str, eqv_itD, eqv_ints, eqv_strs, eqv_its, eqv_nil, Nat.zero_le, and_assoc]
      exact n
    · rw [if_neg (fun h => ht h.2)] at n
      simp only [ht, wVar, wOwn, wC, wOp, wT, wChain, wAndT, wOrT, wNotT, wAnd, wOr, wNot, wIf, wNil, wCons, wDisp, wCall, wCall0, wNoPart, wPart, wSl, wRevL, wBlt, wItL, wItT, wItS, wRg1, wRg2, wEnum, wZip, wLR, wLR2, wYes, wM1, wFmt, wJoined, wIsi, wNeg, wNewD, wOwnCat, wPar2, wNext, wSeq, wNever, wSet, wNew, wAug, wExtend, wAppend, wPut, wFrz, wRet, wRetOwn, wRetN, wDrop, wIfS, wgName, wgTup, wUnp, wRaise, bodyEN, wLc, wFor, wSortSet, e_add_i, e_add_s, e_add_l, e_add_t, e_kadd_i, e_kadd_s, e_kadd_l, e_kadd_t, e_sub, e_kt, e_mul_i, e_mul_l, e_kmul_i, e_kmul_l, e_div, e_kdiv, e_mod, e_kmod, e_cmp, e_eq, e_ne, e_keq, e_is_n, e_is_b, e_isn_n, e_isn_b, e_non_n, e_non_l, e_non_t, e_non_i, e_non_s, e_non_b, e_non_x, e_in_l, e_in_t, e_ni_l, e_ni_t, e_kin_l, e_kin_t, e_kin_s, e_ix_l, e_ix_t, e_ix_s, e_kix_l, e_kix_t, e_kix_s, e_sl_l, e_sl_t, e_sl_s, e_len_l, e_len_t, e_len_s, e_klen_l, e_klen_t, e_klen_s, e_kany, e_list_l, e_list_t, e_tup_l, e_tup_t, e_sum, e_max, e_max2, e_min, e_kne, e_kne2, e_all, e_str, e_kstr, e_int, e_kint, e_split, e_ksplit, e_part, e_kpart, e_join, e_kjoin, e_pys0, e_pys1, e_sa0, e_sa1, e_wipe0, e_wipe1, e_js0, e_js1, e_ty_i, e_ty_b, e_ty_n, e_ty_s, e_ty_l, e_ty_t, e_isi_ii, e_isi_ib, e_isi_in, e_isi_is, e_isi_il, e_isi_it, e_isi_bi, e_isi_bb, e_isi_bn, e_isi_bs, e_isi_bl, e_isi_bt, e_isi_li, e_isi_lb, e_isi_ln, e_isi_ls, e_isi_ll, e_isi_lt, e_isi_ti, e_isi_tb, e_isi_tn, e_isi_ts, e_isi_tl, e_isi_tt, e_isi_si, e_isi_sb, e_isi_sn, e_isi_ss, e_isi_sl, e_isi_st, e_up, e_st0, e_st1, e_st2, exists_eq_left, exists_eq_left', exists_eq_right, exists_eq_right', exists_eq', exists_eq, true_and, and_true, and_self, false_and, and_false, exists_and_left, exists_and_right, exists_const, Option.some.injEq, Option.map_some, Option.map_none, Sl.is.injEq, Sl.own.injEq, D.py.injEq, D.ex.injEq, D.rf.injEq, PyData.int.injEq, PyData.bool.injEq, PyData.str.injEq, PyData.list.injEq, PyData.tuple.injEq, List.cons.injEq, if_true, if_false, eq_self, Bool.false_eq_true, Bool.true_eq_false, Bool.not_true, Bool.not_false, Bool.not_not, List.getElem?_cons_zero, List.getElem?_cons_succ, List.set_cons_zero, List.set_cons_succ, List.length_cons, List.length_nil, List.cons_append, List.nil_append, reduceCtorEq, List.replicate_zero, List.replicate_succ, Nat.reduceAdd, Nat.reduceSub, decide_true, decide_false, intsOf_map', blsOf_map', strsOf_map', map_int_inj, map_str_inj, map_bool_inj, map_itD_inj, itD_iff, sh_int, sh_bool, sh_none, sh_itD, sh_nil, sh_ints, sh_its, eqv_int, eqv_bool, eqv_str, eqv_itD, eqv_ints, eqv_strs, eqv_its, eqv_nil, Nat.zero_le, and_assoc]
      exact n
theorem law_item_in : ∀ ds θ N Nx, sp_item_in.up ds θ N Nx → w_item_in (bodyEN N Nx) (startD 9 ds) θ := by
  rintro ds θ N Nx ⟨z, rfl, ok, n⟩
  rw [← itemC_eq] at n
  unfold itemC at n
  obtain ⟨p1, p2, p3⟩ := ok.part "/"
  simp only [w_item_in, wVar, wOwn, wC, wOp, wT, wChain, wAndT, wOrT, wNotT, wAnd, wOr, wNot, wIf, wNil, wCons, wDisp, wCall, wCall0, wNoPart, wPart, wSl, wRevL, wBlt, wItL, wItT, wItS, wRg1, wRg2, wEnum, wZip, wLR, wLR2, wYes, wM1, wFmt, wJoined, wIsi, wNeg, wNewD, wOwnCat, wPar2, wNext, wSeq, wNever, wSet, wNew, wAug, wExtend, wAppend, wPut, wFrz, wRet, wRetOwn, wRetN, wDrop, wIfS, wgName, wgTup, wUnp, wRaise, bodyEN, wLc, wFor, wSortSet, e_add_i, e_add_s, e_add_l, e_add_t, e_kadd_i, e_kadd_s, e_kadd_l, e_kadd_t, e_sub, e_kt, e_mul_i, e_mul_l, e_kmul_i, e_kmul_l, e_div, e_kdiv, e_mod, e_kmod, e_cmp, e_eq, e_ne, e_keq, e_is_n, e_is_b, e_isn_n, e_isn_b, e_non_n, e_non_l, e_non_t, e_non_i, e_non_s, e_non_b, e_non_x, e_in_l, e_in_t, e_ni_l, e_ni_t, e_kin_l, e_kin_t, e_kin_s, e_ix_l, e_ix_t, e_ix_s, e_kix_l, e_kix_t, e_kix_s, e_sl_l, e_sl_t, e_sl_s, e_len_l, e_len_t, e_len_s, e_klen_l, e_klen_t, e_klen_s, e_kany, e_list_l, e_list_t, e_tup_l, e_tup_t, e_sum, e_max, e_max2, e_min, e_kne, e_kne2, e_all, e_str, e_kstr, e_int, e_kint, e_split, e_ksplit, e_part, e_kpart, e_join, e_kjoin, e_pys0, e_pys1, e_sa0, e_sa1, e_wipe0, e_wipe1, e_js0, e_js1, e_ty_i, e_ty_b, e_ty_n, e_ty_s, e_ty_l, e_ty_t, e_isi_ii, e_isi_ib, e_isi_in, e_isi_is, e_isi_il, e_isi_it, e_isi_bi, e_isi_bb, e_isi_bn, e_isi_bs, e_isi_bl, e_isi_bt, e_isi_li, e_isi_lb, e_isi_ln, e_isi_ls, e_isi_ll, e_isi_lt, e_isi_ti, e_isi_tb, e_isi_tn, e_isi_ts, e_isi_tl, e_isi_tt, e_isi_si, e_isi_sb, e_isi_sn, e_isi_ss, e_isi_sl, e_isi_st, e_up, e_st0, e_st1, e_st2, exists_eq_left, exists_eq_left', exists_eq_right, exists_eq_right', exists_eq', exists_eq, true_and, and_true, and_self, false_and, and_false, exists_and_left, exists_and_right, exists_const, Option.some.injEq, Option.map_some, Option.map_none, Sl.is.injEq, Sl.own.injEq, D.py.injEq, D.ex.injEq, D.rf.injEq, PyData.int.injEq, PyData.bool.injEq, PyData.str.injEq, PyData.list.injEq, PyData.tuple.injEq, List.cons.injEq, if_true, if_false, eq_self, Bool.false_eq_true, Bool.true_eq_false, Bool.not_true, Bool.not_false, Bool.not_not, List.getElem?_cons_zero, List.getElem?_cons_succ, List.set_cons_zero, List.set_cons_succ, List.length_cons, List.length_nil, List.cons_append, List.nil_append, reduceCtorEq, List.replicate_zero, List.replicate_succ, Nat.reduceAdd, Nat.reduceSub, decide_true, decide_false, intsOf_map', blsOf_map', strsOf_map', map_int_inj, map_str_inj, map_bool_inj, map_itD_inj, itD_iff, sh_int, sh_bool, sh_none, sh_itD, sh_nil, sh_ints, sh_its, eqv_int, eqv_bool, eqv_str, eqv_itD, eqv_ints, eqv_strs, eqv_its, eqv_nil, Nat.zero_le, and_assoc]
  have hz : z.length ≤ sizeLine := le_line ok.2
  refine ⟨by decide +kernel, hz, ?_⟩
  generalize Txt.partition z "/" = p at *
  obtain ⟨head, slash, tail⟩ := p
  simp only at p1 p2 p3 n ⊢
  obtain ⟨r1, r2, r3⟩ := p1.part "-"
  refine ⟨by decide +kernel, le_line p1.2, ?_⟩
  generalize Txt.partition head "-" = r at *
  obtain ⟨first, dash, last⟩ := r
  simp only at r1 r2 r3 n ⊢
  simp only [p2.sh, r2.sh, sh_str strOk_e, sp_number_in, sp_is_item, sp_text_of, p3, r1, r3, sz3, isItem3, line3, wVar, wOwn, wC, wOp, wT, wChain, wAndT, wOrT, wNotT, wAnd, wOr, wNot, wIf, wNil, wCons, wDisp, wCall, wCall0, wNoPart, wPart, wSl, wRevL, wBlt, wItL, wItT, wItS, wRg1, wRg2, wEnum, wZip, wLR, wLR2, wYes, wM1, wFmt, wJoined, wIsi, wNeg, wNewD, wOwnCat, wPar2, wNext, wSeq, wNever, wSet, wNew, wAug, wExtend, wAppend, wPut, wFrz, wRet, wRetOwn, wRetN, wDrop, wIfS, wgName, wgTup, wUnp, wRaise, bodyEN, wLc, wFor, wSortSet, e_add_i, e_add_s, e_add_l, e_add_t, e_kadd_i, e_kadd_s, e_kadd_l, e_kadd_t, e_sub, e_kt, e_mul_i, e_mul_l, e_kmul_i, e_kmul_l, e_div, e_kdiv, e_mod, e_kmod, e_cmp, e_eq, e_ne, e_keq, e_is_n, e_is_b, e_isn_n, e_isn_b, e_non_n, e_non_l, e_non_t, e_non_i, e_non_s, e_non_b, e_non_x, e_in_l, e_in_t, e_ni_l, e_ni_t, e_kin_l, e_kin_t, e_kin_s, e_ix_l, e_ix_t, e_ix_s, e_kix_l, e_kix_t, e_kix_s, e_sl_l, e_sl_t, e_sl_s, e_len_l, e_len_t, e_len_s, e_klen_l, e_klen_t, e_klen_s, e_kany, e_list_l, e_list_t, e_tup_l, e_tup_t, e_sum, e_max, e_max2, e_min, e_kne, e_kne2, e_all, e_str, e_kstr, e_int, e_kint, e_split, e_ksplit, e_part, e_kpart, e_join, e_kjoin, e_pys0, e_pys1, e_sa0, e_sa1, e_wipe0, e_wipe1, e_js0, e_js1, e_ty_i, e_ty_b, e_ty_n, e_ty_s, e_ty_l, e_ty_t, e_isi_ii, e_isi_ib, e_isi_in, e_isi_is, e_isi_il, e_isi_it, e_isi_bi, e_isi_bb, e_isi_bn, e_isi_bs, e_isi_bl, e_isi_bt, e_isi_li, e_isi_lb, e_isi_ln, e_isi_ls, e_isi_ll, e_isi_lt, e_isi_ti, e_isi_tb, e_isi_tn, e_isi_ts, e_isi_tl, e_isi_tt, e_isi_si, e_isi_sb, e_isi_sn, e_isi_ss, e_isi_sl, e_isi_st, e_up, e_st0, e_st1, e_st2, exists_eq_left, exists_eq_left', exists_eq_right, exists_eq_right', exists_eq', exists_eq, true_and, and_true, and_self, false_and, and_false, exists_and_left, exists_and_right, exists_const, Option.some.injEq, Option.map_some, Option.map_none, Sl.is.injEq, Sl.own.injEq, D.py.injEq, D.ex.injEq, D.rf.injEq, PyData.int.injEq, PyData.bool.injEq, PyData.str.injEq, PyData.list.injEq, PyData.tuple.injEq, List.cons.injEq, if_true, if_false, eq_self, Bool.false_eq_true, Bool.true_eq_false, Bool.not_true, Bool.not_false, Bool.not_not, List.getElem?_cons_zero, List.getElem?_cons_succ, List.set_cons_zero, List.set_cons_succ, List.length_cons, List.length_nil, List.cons_append, List.nil_append, reduceCtorEq, List.replicate_zero, List.replicate_succ, Nat.reduceAdd, Nat.reduceSub, decide_true, decide_false, intsOf_map', blsOf_map', strsOf_map', map_int_inj, map_str_inj, map_bool_inj, map_itD_inj, itD_iff, sh_int, sh_bool, sh_none, sh_itD, sh_nil, sh_ints, sh_its, eqv_int, eqv_bool, eqv_str, eqv_itD, eqv_ints, eqv_strs, eqv_its, eqv_nil, Nat.zero_le, and_assoc]
  by_cases hs : slash = Str.ofString "" <;> by_cases hd : dash = Str.ofString "" <;> simp only [hs, hd, wVar, wOwn, wC, wOp, wT, wChain, wAndT, wOrT, wNotT, wAnd, wOr, wNot, wIf, wNil, wCons, wDisp, wCall, wCall0, wNoPart, wPart, wSl, wRevL, wBlt, wItL, wItT, wItS, wRg1, wRg2, wEnum, wZip, wLR, wLR2, wYes, wM1, wFmt, wJoined, wIsi, wNeg, wNewD, wOwnCat, wPar2, wNext, wSeq, wNever, wSet, wNew, wAug, wExtend, wAppend, wPut, wFrz, wRet, wRetOwn, wRetN, wDrop, wIfS, wgName, wgTup, wUnp, wRaise, bodyEN, wLc, wFor, wSortSet, e_add_i, e_add_s, e_add_l, e_add_t, e_kadd_i, e_kadd_s, e_kadd_l, e_kadd_t, e_sub, e_kt, e_mul_i, e_mul_l, e_kmul_i, e_kmul_l, e_div, e_kdiv, e_mod, e_kmod, e_cmp, e_eq, e_ne, e_keq, e_is_n, e_is_b, e_isn_n, e_isn_b, e_non_n, e_non_l, e_non_t, e_non_i, e_non_s, e_non_b, e_non_x, e_in_l, e_in_t, e_ni_l, e_ni_t, e_kin_l, e_kin_t, e_kin_s, e_ix_l, e_ix_t, e_ix_s, e_kix_l, e_kix_t, e_kix_s, e_sl_l, e_sl_t, e_sl_s, e_len_l, e_len_t, e_len_s, e_klen_l, e_klen_t, e_klen_s, e_kany, e_list_l, e_list_t, e_tup_l, e_tup_t, e_sum, e_max, e_max2, e_min, e_kne, e_kne2, e_all, e_str, e_kstr, e_int, e_kint, e_split, e_ksplit, e_part, e_kpart, e_join, e_kjoin, e_pys0, e_pys1, e_sa0, e_sa1, e_wipe0, e_wipe1, e_js0, e_js1, e_ty_i, e_ty_b, e_ty_n, e_ty_s, e_ty_l, e_ty_t, e_isi_ii, e_isi_ib, e_isi_in, e_isi_is, e_isi_il, e_isi_it, e_isi_bi, e_isi_bb, e_isi_bn, e_isi_bs, e_isi_bl, e_isi_bt, e_isi_li, e_isi_lb, e_isi_ln, e_isi_ls, e_isi_ll, e_isi_lt, e_isi_ti, e_isi_tb, e_isi_tn, e_isi_ts, e_isi_tl, e_isi_tt, e_isi_si, e_isi_sb, e_isi_sn, e_isi_ss, e_isi_sl, e_isi_st, e_up, e_st0, e_st1, e_st2, exists_eq_left, exists_eq_left', exists_eq_right, exists_eq_right', exists_eq', exists_eq, true_and, and_true, and_self, false_and, and_false, exists_and_left, exists_and_right, exists_const, Option.some.injEq, Option.map_some, Option.map_none, Sl.is.injEq, Sl.own.injEq, D.py.injEq, D.ex.injEq, D.rf.injEq, PyData.int.injEq, PyData.bool.injEq, PyData.str.injEq, PyData.list.injEq, PyData.tuple.injEq, List.cons.injEq, if_true, if_false, eq_self, Bool.false_eq_true, Bool.true_eq_false, Bool.not_true, Bool.not_false, Bool.not_not, List.getElem?_cons_zero, List.getElem?_cons_succ, List.set_cons_zero, List.set_cons_succ, List.length_cons, List.length_nil, List.cons_append, List.nil_append, reduceCtorEq, List.replicate_zero, List.replicate_succ, Nat.reduceAdd, Nat.reduceSub, decide_true, decide_false, intsOf_map', blsOf_map', strsOf_map', map_int_inj, map_str_inj, map_bool_inj, map_itD_inj, itD_iff, sh_int, sh_bool, sh_none, sh_itD, sh_nil, sh_ints, sh_its, eqv_int, eqv_bool, eqv_str, eqv_itD, eqv_ints, eqv_strs, eqv_its, eqv_nil, Nat.zero_le, and_assoc] at n ⊢
  · exact fin_item ok n
  · exact fin_item ok n
  · exact n
  · by_cases ht : numberIn tail < 2
    · simp only [ht, wVar, wOwn, wC, wOp, wT, wChain, wAndT, wOrT, wNotT, wAnd, wOr, wNot, wIf, wNil, wCons, wDisp, wCall, wCall0, wNoPart, wPart, wSl, wRevL, wBlt, wItL, wItT, wItS, wRg1, wRg2, wEnum, wZip, wLR, wLR2, wYes, wM1, wFmt, wJoined, wIsi, wNeg, wNewD, wOwnCat, wPar2, wNext, wSeq, wNever, wSet, wNew, wAug, wExtend, wAppend, wPut, wFrz, wRet, wRetOwn, wRetN, wDrop, wIfS, wgName, wgTup, wUnp, wRaise, bodyEN, wLc, wFor, wSortSet, e_add_i, e_add_s, e_add_l, e_add_t, e_kadd_i, e_kadd_s, e_kadd_l, e_kadd_t, e_sub, e_kt, e_mul_i, e_mul_l, e_kmul_i, e_kmul_l, e_div, e_kdiv, e_mod, e_kmod, e_cmp, e_eq, e_ne, e_keq, e_is_n, e_is_b, e_isn_n, e_isn_b, e_non_n, e_non_l, e_non_t, e_non_i, e_non_s, e_non_b, e_non_x, e_in_l, e_in_t, e_ni_l, e_ni_t, e_kin_l, e_kin_t, e_kin_s, e_ix_l, e_ix_t, e_ix_s, e_kix_l, e_kix_t, e_kix_s, e_sl_l, e_sl_t, e_sl_s, e_len_l, e_len_t, e_len_s, e_klen_l, e_klen_t, e_klen_s, e_kany, e_list_l, e_list_t, e_tup_l, e_tup_t, e_sum, e_max, e_max2, e_min, e_kne, e_kne2, e_all, e_str, e_kstr, e_int, e_kint, e_split, e_ksplit, e_part, e_kpart, e_join, e_kjoin, e_pys0, e_pys1, e_sa0, e_sa1, e_wipe0, e_wipe1, e_js0, e_js1, e_ty_i, e_ty_b, e_ty_n, e_ty_s, e_ty_l, e_ty_t, e_isi_ii, e_isi_ib, e_isi_in, e_isi_is, e_isi_il, e_isi_it, e_isi_bi, e_isi_bb, e_isi_bn, e_isi_bs, e_isi_bl, e_isi_bt, e_isi_li, e_isi_lb, e_isi_ln, e_isi_ls, e_isi_ll, e_isi_lt, e_isi_ti, e_isi_tb, e_isi_tn, e_isi_ts, e_isi_tl, e_isi_tt, e_isi_si, e_isi_sb, e_isi_sn, e_isi_ss, e_isi_sl, e_isi_st, e_up, e_st0, e_st1, e_st2, exists_eq_left, exists_eq_left', exists_eq_right, exists_eq_right', exists_eq', exists_eq, true_and, and_true, and_self, false_and, and_false, exists_and_left, exists_and_right, exists_const, Option.some.injEq, Option.map_some, Option.map_none, Sl.is.injEq, Sl.own.injEq, D.py.injEq, D.ex.injEq, D.rf.injEq, PyData.int.injEq, PyData.bool.injEq, PyData.str.injEq, PyData.list.injEq, PyData.tuple.injEq, List.cons.injEq, if_true, if_false, eq_self, Bool.false_eq_true, Bool.true_eq_false, Bool.not_true, Bool.not_false, Bool.not_not, List.getElem?_cons_zero, List.getElem?_cons_succ, List.set_cons_zero, List.set_cons_succ, List.length_cons, List.length_nil, List.cons_append, List.nil_append, reduceCtorEq, List.replicate_zero, List.replicate_succ, Nat.reduceAdd, Nat.reduceSub, decide_true, decide_false, intsOf_map', blsOf_map', strsOf_map', map_int_inj, map_str_inj, map_bool_inj, map_itD_inj, itD_iff, sh_int, sh_bool, sh_none, sh_itD, sh_nil, sh_ints, sh_its, eqv_int, eqv_bool, eqv_str, eqv_itD, eqv_ints, eqv_strs, eqv_its, eqv_nil, Nat.zero_le, and_assoc] at n ⊢
      exact n
    · simp only [ht, wVar, wOwn, wC, wOp, wT, wChain, wAndT, wOrT, wNotT, wAnd, wOr, wNot, wIf, wNil, wCons, wDisp, wCall, wCall0, wNoPart, wPart, wSl, wRevL, wBlt, wItL, wItT, wItS, wRg1, wRg2, wEnum, wZip, wLR, wLR2, wYes, wM1, wFmt, wJoined, wIsi, wNeg, wNewD, wOwnCat, wPar2, wNext, wSeq, wNever, wSet, wNew, wAug, wExtend, wAppend, wPut, wFrz, wRet, wRetOwn, wRetN, wDrop, wIfS, wgName, wgTup, wUnp, wRaise, bodyEN, wLc, wFor, wSortSet, e_add_i, e_add_s, e_add_l, e_add_t, e_kadd_i, e_kadd_s, e_kadd_l, e_kadd_t, e_sub, e_kt, e_mul_i, e_mul_l, e_kmul_i, e_kmul_l, e_div, e_kdiv, e_mod, e_kmod, e_cmp, e_eq, e_ne, e_keq, e_is_n, e_is_b, e_isn_n, e_isn_b, e_non_n, e_non_l, e_non_t, e_non_i, e_non_s, e_non_b, e_non_x, e_in_l, e_in_t, e_ni_l, e_ni_t, e_kin_l, e_kin_t, e_kin_s, e_ix_l, e_ix_t, e_ix_s, e_kix_l, e_kix_t, e_kix_s, e_sl_l, e_sl_t, e_sl_s, e_len_l, e_len_t, e_len_s, e_klen_l, e_klen_t, e_klen_s, e_kany, e_list_l, e_list_t, e_tup_l, e_tup_t, e_sum, e_max, e_max2, e_min, e_kne, e_kne2, e_all, e_str, e_kstr, e_int, e_kint, e_split, e_ksplit, e_part, e_kpart, e_join, e_kjoin, e_pys0, e_pys1, e_sa0, e_sa1, e_wipe0, e_wipe1, e_js0, e_js1, e_ty_i, e_ty_b, e_ty_n, e_ty_s, e_ty_l, e_ty_t, e_isi_ii, e_isi_ib, e_isi_in, e_isi_is, e_isi_il, e_isi_it, e_isi_bi, e_isi_bb, e_isi_bn, e_isi_bs, e_isi_bl, e_isi_bt, e_isi_li, e_isi_lb, e_isi_ln, e_isi_ls, e_isi_ll, e_isi_lt, e_isi_ti, e_isi_tb, e_isi_tn, e_isi_ts, e_isi_tl, e_isi_tt, e_isi_si, e_isi_sb, e_isi_sn, e_isi_ss, e_isi_sl, e_isi_st, e_up, e_st0, e_st1, e_st2, exists_eq_left, exists_eq_left', exists_eq_right, exists_eq_right', exists_eq', exists_eq, true_and, and_true, and_self, false_and, and_false, exists_and_left, exists_and_right, exists_const, Option.some.injEq, Option.map_some, Option.map_none, Sl.is.injEq, Sl.own.injEq, D.py.injEq, D.ex.injEq, D.rf.injEq, PyData.int.injEq, PyData.bool.injEq, PyData.str.injEq, PyData.list.injEq, PyData.tuple.injEq, List.cons.injEq, if_true, if_false, eq_self, Bool.false_eq_true, Bool.true_eq_false, Bool.not_true, Bool.not_false, Bool.not_not, List.getElem?_cons_zero, List.getElem?_cons_succ, List.set_cons_zero, List.set_cons_succ, List.length_cons, List.length_nil, List.cons_append, List.nil_append, reduceCtorEq, List.replicate_zero, List.replicate_succ, Nat.reduceAdd, Nat.reduceSub, decide_true, decide_false, intsOf_map', blsOf_map', strsOf_map', map_int_inj, map_str_inj, map_bool_inj, map_itD_inj, itD_iff, sh_int, sh_bool, sh_none, sh_itD, sh_nil, sh_ints, sh_its, eqv_int, eqv_bool, eqv_str, eqv_itD, eqv_ints, eqv_strs, eqv_its, eqv_nil, Nat.zero_le, and_assoc] at n ⊢
      exact fin_item ok n
end RT
end
section
set_option Elab.async false
set_option linter.all false
set_option maxRecDepth 100000
set_option maxHeartbeats 4000000
namespace RT
open PySem PySem.Spec PyProof.Rows L2
/-! ### texts of several items -/
theorem spl_len (S : List Nat) : ∀ (k : Nat) (acc l : List Nat), ∀ p ∈ TL.spl S k acc l, p.length ≤ acc.length + l.length ∧ ∀ c ∈ p, c ∈ acc ∨ c ∈ l
  | k, acc, [], p, h => by
    rw [TL.spl_nil] at h
    cases List.mem_singleton.mp h
    exact ⟨by simp, fun c hc => .inl hc⟩
  | 0, acc, c :: r, p, h => by
    cases hp : TL.pre S (c :: r) with
    | true =>
      rw [TL.spl_hit hp] at h
      rcases List.mem_cons.mp h with rfl | h
      · exact ⟨by simp, fun c hc => .inl hc⟩
      · obtain ⟨h1, h2⟩ := spl_len S _ [] r p h
        refine ⟨by simp at h1 ⊢; omega, fun c' hc => ?_⟩
        rcases h2 c' hc with q | q
        · cases q
        · exact .inr (List.mem_cons_of_mem _ q)
    | false =>
      rw [TL.spl_miss hp] at h
      obtain ⟨h1, h2⟩ := spl_len S _ _ r p h
      refine ⟨by simp at h1 ⊢; omega, fun c' hc => ?_⟩
      rcases h2 c' hc with q | q
      · rcases List.mem_append.mp q with q | q
        · exact .inl q
        · rw [List.mem_singleton.mp q]
          exact .inr List.mem_cons_self
      · exact .inr (List.mem_cons_of_mem _ q)
  | k + 1, acc, c :: r, p, h => by
    have h' : p ∈ TL.spl S k acc r := h
    obtain ⟨h1, h2⟩ := spl_len S k acc r p h'
    exact ⟨by simp at h1 ⊢; omega, fun c' hc => (h2 c' hc).imp id (List.mem_cons_of_mem _)⟩
theorem TOk.split {z : Str} (h : TOk z) : ∀ p ∈ Txt.split z ",", TOk p := by
  intro p hp
  have e := _root_.SX.split_S (a := TL.tl z) (b := TL.tl ",") (by decide +kernel) (by decide +kernel)
  rw [_root_.SX.S_tl, _root_.SX.S_tl] at e
  rw [e] at hp
  obtain ⟨l, hl, rfl⟩ := List.mem_map.mp hp
  obtain ⟨h1, h2⟩ := spl_len _ _ _ _ l hl
  obtain ⟨h3, h4⟩ := h
  refine ⟨strOk_iff.mpr fun c hc => ?_, ?_⟩
  · rcases h2 c hc with q | q
    · cases q
    · exact strOk_iff.mp h3 c q
  · rw [_root_.SX.S_len]
    rw [TL.len_tl] at h4
    simp only [List.length_nil, Nat.zero_add] at h1
    exact Nat.le_trans h1 h4
def itemsIn (z : Str) : Option (List Itm) := (Txt.split z ",").mapM itemIn
def itemsD : PyData → Option (List Itm)
  | .str z => itemsIn z
  | _ => none
def optL : Option (List Itm) → PyData
  | some l => .list (l.map itD)
  | none => .none
def TFine : PyData → Prop
  | .str z => TOk z
  | _ => True
def sp_items_in : Spec0 := fun ds N _ => ∃ d, ds = [.py d] ∧ TFine d ∧ N (.py (optL (itemsD d)))
def w_items_in : WS Unit :=
  wSeq (wIfS (wNotT (wT (wIsi "str" (wVar 0)))) (wRet (wC .none)) (wNext)) (wSeq (wSet 1 (wLc (wItL (wM1 fSplit kSplit (wVar 0) (wC (.str ",")))) (wgName 2) (wYes) (wCall0 sp_item_in (wCons (wVar 2) (wNil))) [2])) (wRet (wIf (wT (wOp fNi kIn (wC .none) (wVar 1))) (wVar 1) (wC .none))))
theorem mapM_some {α β : Type} {f : α → Option β} : ∀ {xs : List α} {ys : List β}, xs.mapM f = some ys ↔ xs.map f = ys.map some
  | [], ys => by
    simp
  | x :: xs, ys => by
    rw [List.mapM_cons]
    cases h : f x with
    | none => cases ys <;> simp [h]
    | some y =>
      cases h2 : xs.mapM f with
      | none =>
        simp
        cases ys with
        | nil => simp
        | cons y' ys =>
          simp [h]
          intro _ q
          rw [mapM_some.mpr q] at h2
          cases h2
      | some zs =>
        have e := mapM_some.mp h2
        cases ys with
        | nil => simp
        | cons y' ys =>
          simp [h, e]
          intro _
          exact ⟨fun q => by rw [q], fun q => (List.map_inj_right fun x y q => Option.some.inj q).mp q⟩
theorem mapM_none {α β : Type} {f : α → Option β} : ∀ {xs : List α}, xs.mapM f = none ↔ ∃ x ∈ xs, f x = none
  | [] => by simp
  | x :: xs => by
    rw [List.mapM_cons]
    cases h : f x with
    | none => simp [h]
    | some y =>
      have ih := mapM_none (f := f) (xs := xs)
      cases h2 : xs.mapM f with
      | none =>
        obtain ⟨z, hz, e⟩ := ih.mp h2
        simp
        exact .inr ⟨z, hz, e⟩
      | some zs =>
        rw [h2] at ih
        simp [h] at ih ⊢
        exact ih
theorem eqv_none (d : Option Itm) : PyData.eqv (optI d) .none = d.isNone := by
  cases d <;> simp [optI, PyData.eqv]
theorem shp_optI (d : Option Itm) : Shp 1 (optI d) := by
  cases d with
  | none => exact shp_none.mono (by omega)
  | some q => exact shp_itD q
theorem law_items_in : ∀ ds θ N Nx, sp_items_in.up ds θ N Nx → w_items_in (bodyEN N Nx) (startD 3 ds) θ := by
  rintro ds θ N Nx ⟨d, rfl, fn, n⟩
  cases d with
  | str z =>
    have ok : TOk z := fn
    have hl : z.length + 2 ≤ sizeLine := by have := ok.2; exact le_line' (by omega)
    have hp := PyProof.Rows.fact_split z ","
    simp only [w_items_in, wVar, wOwn, wC, wOp, wT, wChain, wAndT, wOrT, wNotT, wAnd, wOr, wNot, wIf, wNil, wCons, wDisp, wCall, wCall0, wNoPart, wPart, wSl, wRevL, wBlt, wItL, wItT, wItS, wRg1, wRg2, wEnum, wZip, wLR, wLR2, wYes, wM1, wFmt, wJoined, wIsi, wNeg, wNewD, wOwnCat, wPar2, wNext, wSeq, wNever, wSet, wNew, wAug, wExtend, wAppend, wPut, wFrz, wRet, wRetOwn, wRetN, wDrop, wIfS, wgName, wgTup, wUnp, wRaise, bodyEN, wLc, wFor, wSortSet, e_add_i, e_add_s, e_add_l, e_add_t, e_kadd_i, e_kadd_s, e_kadd_l, e_kadd_t, e_sub, e_kt, e_mul_i, e_mul_l, e_kmul_i, e_kmul_l, e_div, e_kdiv, e_mod, e_kmod, e_cmp, e_eq, e_ne, e_keq, e_is_n, e_is_b, e_isn_n, e_isn_b, e_non_n, e_non_l, e_non_t, e_non_i, e_non_s, e_non_b, e_non_x, e_in_l, e_in_t, e_ni_l, e_ni_t, e_kin_l, e_kin_t, e_kin_s, e_ix_l, e_ix_t, e_ix_s, e_kix_l, e_kix_t, e_kix_s, e_sl_l, e_sl_t, e_sl_s, e_len_l, e_len_t, e_len_s, e_klen_l, e_klen_t, e_klen_s, e_kany, e_list_l, e_list_t, e_tup_l, e_tup_t, e_sum, e_max, e_max2, e_min, e_kne, e_kne2, e_all, e_str, e_kstr, e_int, e_kint, e_split, e_ksplit, e_part, e_kpart, e_join, e_kjoin, e_pys0, e_pys1, e_sa0, e_sa1, e_wipe0, e_wipe1, e_js0, e_js1, e_ty_i, e_ty_b, e_ty_n, e_ty_s, e_ty_l, e_ty_t, e_isi_ii, e_isi_ib, e_isi_in, e_isi_is, e_isi_il, e_isi_it, e_isi_bi, e_isi_bb, e_isi_bn, e_isi_bs, e_isi_bl, e_isi_bt, e_isi_li, e_isi_lb, e_isi_ln, e_isi_ls, e_isi_ll, e_isi_lt, e_isi_ti, e_isi_tb, e_isi_tn, e_isi_ts, e_isi_tl, e_isi_tt, e_isi_si, e_isi_sb, e_isi_sn, e_isi_ss, e_isi_sl, e_isi_st, e_up, e_st0, e_st1, e_st2, exists_eq_left, exists_eq_left', exists_eq_right, exists_eq_right', exists_eq', exists_eq, true_and, and_true, and_self, false_and, and_false, exists_and_left, exists_and_right, exists_const, Option.some.injEq, Option.map_some, Option.map_none, Sl.is.injEq, Sl.own.injEq, D.py.injEq, D.ex.injEq, D.rf.injEq, PyData.int.injEq, PyData.bool.injEq, PyData.str.injEq, PyData.list.injEq, PyData.tuple.injEq, List.cons.injEq, if_true, if_false, eq_self, Bool.false_eq_true, Bool.true_eq_false, Bool.not_true, Bool.not_false, Bool.not_not, List.getElem?_cons_zero, List.getElem?_cons_succ, List.set_cons_zero, List.set_cons_succ, List.length_cons, List.length_nil, List.cons_append, List.nil_append, reduceCtorEq, List.replicate_zero, List.replicate_succ, Nat.reduceAdd, Nat.reduceSub, decide_true, decide_false, intsOf_map', blsOf_map', strsOf_map', map_int_inj, map_str_inj, map_bool_inj, map_itD_inj, itD_iff, sh_int, sh_bool, sh_none, sh_itD, sh_nil, sh_ints, sh_its, eqv_int, eqv_bool, eqv_str, eqv_itD, eqv_ints, eqv_strs, eqv_its, eqv_nil, Nat.zero_le, and_assoc, List.map_map]
    refine ⟨by decide +kernel, hl, ?_⟩
    refine lcGo_map (D.py ∘ PyData.str) (fun p => optI (itemIn p)) _ (fun x hx T q => ?_) (Nat.le_trans hp.2 hl) ?_
    · simp only [sp_item_in, Function.comp, wVar, wOwn, wC, wOp, wT, wChain, wAndT, wOrT, wNotT, wAnd, wOr, wNot, wIf, wNil, wCons, wDisp, wCall, wCall0, wNoPart, wPart, wSl, wRevL, wBlt, wItL, wItT, wItS, wRg1, wRg2, wEnum, wZip, wLR, wLR2, wYes, wM1, wFmt, wJoined, wIsi, wNeg, wNewD, wOwnCat, wPar2, wNext, wSeq, wNever, wSet, wNew, wAug, wExtend, wAppend, wPut, wFrz, wRet, wRetOwn, wRetN, wDrop, wIfS, wgName, wgTup, wUnp, wRaise, bodyEN, wLc, wFor, wSortSet, e_add_i, e_add_s, e_add_l, e_add_t, e_kadd_i, e_kadd_s, e_kadd_l, e_kadd_t, e_sub, e_kt, e_mul_i, e_mul_l, e_kmul_i, e_kmul_l, e_div, e_kdiv, e_mod, e_kmod, e_cmp, e_eq, e_ne, e_keq, e_is_n, e_is_b, e_isn_n, e_isn_b, e_non_n, e_non_l, e_non_t, e_non_i, e_non_s, e_non_b, e_non_x, e_in_l, e_in_t, e_ni_l, e_ni_t, e_kin_l, e_kin_t, e_kin_s, e_ix_l, e_ix_t, e_ix_s, e_kix_l, e_kix_t, e_kix_s, e_sl_l, e_sl_t, e_sl_s, e_len_l, e_len_t, e_len_s, e_klen_l, e_klen_t, e_klen_s, e_kany, e_list_l, e_list_t, e_tup_l, e_tup_t, e_sum, e_max, e_max2, e_min, e_kne, e_kne2, e_all, e_str, e_kstr, e_int, e_kint, e_split, e_ksplit, e_part, e_kpart, e_join, e_kjoin, e_pys0, e_pys1, e_sa0, e_sa1, e_wipe0, e_wipe1, e_js0, e_js1, e_ty_i, e_ty_b, e_ty_n, e_ty_s, e_ty_l, e_ty_t, e_isi_ii, e_isi_ib, e_isi_in, e_isi_is, e_isi_il, e_isi_it, e_isi_bi, e_isi_bb, e_isi_bn, e_isi_bs, e_isi_bl, e_isi_bt, e_isi_li, e_isi_lb, e_isi_ln, e_isi_ls, e_isi_ll, e_isi_lt, e_isi_ti, e_isi_tb, e_isi_tn, e_isi_ts, e_isi_tl, e_isi_tt, e_isi_si, e_isi_sb, e_isi_sn, e_isi_ss, e_isi_sl, e_isi_st, e_up, e_st0, e_st1, e_st2, exists_eq_left, exists_eq_left', exists_eq_right, exists_eq_right', exists_eq', exists_eq, true_and, and_true, and_self, false_and, and_false, exists_and_left, exists_and_right, exists_const, Option.some.injEq, Option.map_some, Option.map_none, Sl.is.injEq, Sl.own.injEq, D.py.injEq, D.ex.injEq, D.rf.injEq, PyData.int.injEq, PyData.bool.injEq, PyData.str.injEq, PyData.list.injEq, PyData.tuple.injEq, List.cons.injEq, if_true, if_false, eq_self, Bool.false_eq_true, Bool.true_eq_false, Bool.not_true, Bool.not_false, Bool.not_not, List.getElem?_cons_zero, List.getElem?_cons_succ, List.set_cons_zero, List.set_cons_succ, List.length_cons, List.length_nil, List.cons_append, List.nil_append, reduceCtorEq, List.replicate_zero, List.replicate_succ, Nat.reduceAdd, Nat.reduceSub, decide_true, decide_false, intsOf_map', blsOf_map', strsOf_map', map_int_inj, map_str_inj, map_bool_inj, map_itD_inj, itD_iff, sh_int, sh_bool, sh_none, sh_itD, sh_nil, sh_ints, sh_its, eqv_int, eqv_bool, eqv_str, eqv_itD, eqv_ints, eqv_strs, eqv_its, eqv_nil, Nat.zero_le, and_assoc]
      exact ⟨ok.split x hx, q⟩
    · have sh : SeqAt.shaped (.list ((Txt.split z ",").map fun p => optI (itemIn p))) = true := (shp_map fun x _ => shp_optI _).sh
      simp only [wVar, wOwn, wC, wOp, wT, wChain, wAndT, wOrT, wNotT, wAnd, wOr, wNot, wIf, wNil, wCons, wDisp, wCall, wCall0, wNoPart, wPart, wSl, wRevL, wBlt, wItL, wItT, wItS, wRg1, wRg2, wEnum, wZip, wLR, wLR2, wYes, wM1, wFmt, wJoined, wIsi, wNeg, wNewD, wOwnCat, wPar2, wNext, wSeq, wNever, wSet, wNew, wAug, wExtend, wAppend, wPut, wFrz, wRet, wRetOwn, wRetN, wDrop, wIfS, wgName, wgTup, wUnp, wRaise, bodyEN, wLc, wFor, wSortSet, e_add_i, e_add_s, e_add_l, e_add_t, e_kadd_i, e_kadd_s, e_kadd_l, e_kadd_t, e_sub, e_kt, e_mul_i, e_mul_l, e_kmul_i, e_kmul_l, e_div, e_kdiv, e_mod, e_kmod, e_cmp, e_eq, e_ne, e_keq, e_is_n, e_is_b, e_isn_n, e_isn_b, e_non_n, e_non_l, e_non_t, e_non_i, e_non_s, e_non_b, e_non_x, e_in_l, e_in_t, e_ni_l, e_ni_t, e_kin_l, e_kin_t, e_kin_s, e_ix_l, e_ix_t, e_ix_s, e_kix_l, e_kix_t, e_kix_s, e_sl_l, e_sl_t, e_sl_s, e_len_l, e_len_t, e_len_s, e_klen_l, e_klen_t, e_klen_s, e_kany, e_list_l, e_list_t, e_tup_l, e_tup_t, e_sum, e_max, e_max2, e_min, e_kne, e_kne2, e_all, e_str, e_kstr, e_int, e_kint, e_split, e_ksplit, e_part, e_kpart, e_join, e_kjoin, e_pys0, e_pys1, e_sa0, e_sa1, e_wipe0, e_wipe1, e_js0, e_js1, e_ty_i, e_ty_b, e_ty_n, e_ty_s, e_ty_l, e_ty_t, e_isi_ii, e_isi_ib, e_isi_in, e_isi_is, e_isi_il, e_isi_it, e_isi_bi, e_isi_bb, e_isi_bn, e_isi_bs, e_isi_bl, e_isi_bt, e_isi_li, e_isi_lb, e_isi_ln, e_isi_ls, e_isi_ll, e_isi_lt, e_isi_ti, e_isi_tb, e_isi_tn, e_isi_ts, e_isi_tl, e_isi_tt, e_isi_si, e_isi_sb, e_isi_sn, e_isi_ss, e_isi_sl, e_isi_st, e_up, e_st0, e_st1, e_st2, exists_eq_left, exists_eq_left', exists_eq_right, exists_eq_right', exists_eq', exists_eq, true_and, and_true, and_self, false_and, and_false, exists_and_left, exists_and_right, exists_const, Option.some.injEq, Option.map_some, Option.map_none, Sl.is.injEq, Sl.own.injEq, D.py.injEq, D.ex.injEq, D.rf.injEq, PyData.int.injEq, PyData.bool.injEq, PyData.str.injEq, PyData.list.injEq, PyData.tuple.injEq, List.cons.injEq, if_true, if_false, eq_self, Bool.false_eq_true, Bool.true_eq_false, Bool.not_true, Bool.not_false, Bool.not_not, List.getElem?_cons_zero, List.getElem?_cons_succ, List.set_cons_zero, List.set_cons_succ, List.length_cons, List.length_nil, List.cons_append, List.nil_append, reduceCtorEq, List.replicate_zero, List.replicate_succ, Nat.reduceAdd, Nat.reduceSub, decide_true, decide_false, intsOf_map', blsOf_map', strsOf_map', map_int_inj, map_str_inj, map_bool_inj, map_itD_inj, itD_iff, sh_int, sh_bool, sh_none, sh_itD, sh_nil, sh_ints, sh_its, eqv_int, eqv_bool, eqv_str, eqv_itD, eqv_ints, eqv_strs, eqv_its, eqv_nil, Nat.zero_le, and_assoc, sh, List.any_map, Function.comp_def, eqv_none]
      cases hi : itemsIn z with
      | none =>
        obtain ⟨x, hx, e⟩ := mapM_none.mp hi
        have : ((Txt.split z ",").any fun p => (itemIn p).isNone) = true := List.any_eq_true.mpr ⟨x, hx, by rw [e]; rfl⟩
        simp only [this, wVar, wOwn, wC, wOp, wT, wChain, wAndT, wOrT, wNotT, wAnd, wOr, wNot, wIf, wNil, wCons, wDisp, wCall, wCall0, wNoPart, wPart, wSl, wRevL, wBlt, wItL, wItT, wItS, wRg1, wRg2, wEnum, wZip, wLR, wLR2, wYes, wM1, wFmt, wJoined, wIsi, wNeg, wNewD, wOwnCat, wPar2, wNext, wSeq, wNever, wSet, wNew, wAug, wExtend, wAppend, wPut, wFrz, wRet, wRetOwn, wRetN, wDrop, wIfS, wgName, wgTup, wUnp, wRaise, bodyEN, wLc, wFor, wSortSet, e_add_i, e_add_s, e_add_l, e_add_t, e_kadd_i, e_kadd_s, e_kadd_l, e_kadd_t, e_sub, e_kt, e_mul_i, e_mul_l, e_kmul_i, e_kmul_l, e_div, e_kdiv, e_mod, e_kmod, e_cmp, e_eq, e_ne, e_keq, e_is_n, e_is_b, e_isn_n, e_isn_b, e_non_n, e_non_l, e_non_t, e_non_i, e_non_s, e_non_b, e_non_x, e_in_l, e_in_t, e_ni_l, e_ni_t, e_kin_l, e_kin_t, e_kin_s, e_ix_l, e_ix_t, e_ix_s, e_kix_l, e_kix_t, e_kix_s, e_sl_l, e_sl_t, e_sl_s, e_len_l, e_len_t, e_len_s, e_klen_l, e_klen_t, e_klen_s, e_kany, e_list_l, e_list_t, e_tup_l, e_tup_t, e_sum, e_max, e_max2, e_min, e_kne, e_kne2, e_all, e_str, e_kstr, e_int, e_kint, e_split, e_ksplit, e_part, e_kpart, e_join, e_kjoin, e_pys0, e_pys1, e_sa0, e_sa1, e_wipe0, e_wipe1, e_js0, e_js1, e_ty_i, e_ty_b, e_ty_n, e_ty_s, e_ty_l, e_ty_t, e_isi_ii, e_isi_ib, e_isi_in, e_isi_is, e_isi_il, e_isi_it, e_isi_bi, e_isi_bb, e_isi_bn, e_isi_bs, e_isi_bl, e_isi_bt, e_isi_li, e_isi_lb, e_isi_ln, e_isi_ls, e_isi_ll, e_isi_lt, e_isi_ti, e_isi_tb, e_isi_tn, e_isi_ts, e_isi_tl, e_isi_tt, e_isi_si, e_isi_sb, e_isi_sn, e_isi_ss, e_isi_sl, e_isi_st, e_up, e_st0, e_st1, e_st2, exists_eq_left, exists_eq_left', exists_eq_right, exists_eq_right', exists_eq', exists_eq, true_and, and_true, and_self, false_and, and_false, exists_and_left, exists_and_right, exists_const, Option.some.injEq, Option.map_some, Option.map_none, Sl.is.injEq, Sl.own.injEq, D.py.injEq, D.ex.injEq, D.rf.injEq, PyData.int.injEq, PyData.bool.injEq, PyData.str.injEq, PyData.list.injEq, PyData.tuple.injEq, List.cons.injEq, if_true, if_false, eq_self, Bool.false_eq_true, Bool.true_eq_false, Bool.not_true, Bool.not_false, Bool.not_not, List.getElem?_cons_zero, List.getElem?_cons_succ, List.set_cons_zero, List.set_cons_succ, List.length_cons, List.length_nil, List.cons_append, List.nil_append, reduceCtorEq, List.replicate_zero, List.replicate_succ, Nat.reduceAdd, Nat.reduceSub, decide_true, decide_false, intsOf_map', blsOf_map', strsOf_map', map_int_inj, map_str_inj, map_bool_inj, map_itD_inj, itD_iff, sh_int, sh_bool, sh_none, sh_itD, sh_nil, sh_ints, sh_its, eqv_int, eqv_bool, eqv_str, eqv_itD, eqv_ints, eqv_strs, eqv_its, eqv_nil, Nat.zero_le, and_assoc]
        simp only [itemsD, hi] at n
        exact n
      | some its =>
        have e := mapM_some.mp hi
        have : ((Txt.split z ",").any fun p => (itemIn p).isNone) = false := by
          cases q : (Txt.split z ",").any fun p => (itemIn p).isNone with
          | false => rfl
          | true =>
            obtain ⟨x, hx, h⟩ := List.any_eq_true.mp q
            have : itemIn x ∈ its.map some := by
              rw [← e]
              exact List.mem_map.mpr ⟨x, hx, rfl⟩
            obtain ⟨y, _, hy⟩ := List.mem_map.mp this
            rw [← hy] at h
            cases h
        simp only [this, wVar, wOwn, wC, wOp, wT, wChain, wAndT, wOrT, wNotT, wAnd, wOr, wNot, wIf, wNil, wCons, wDisp, wCall, wCall0, wNoPart, wPart, wSl, wRevL, wBlt, wItL, wItT, wItS, wRg1, wRg2, wEnum, wZip, wLR, wLR2, wYes, wM1, wFmt, wJoined, wIsi, wNeg, wNewD, wOwnCat, wPar2, wNext, wSeq, wNever, wSet, wNew, wAug, wExtend, wAppend, wPut, wFrz, wRet, wRetOwn, wRetN, wDrop, wIfS, wgName, wgTup, wUnp, wRaise, bodyEN, wLc, wFor, wSortSet, e_add_i, e_add_s, e_add_l, e_add_t, e_kadd_i, e_kadd_s, e_kadd_l, e_kadd_t, e_sub, e_kt, e_mul_i, e_mul_l, e_kmul_i, e_kmul_l, e_div, e_kdiv, e_mod, e_kmod, e_cmp, e_eq, e_ne, e_keq, e_is_n, e_is_b, e_isn_n, e_isn_b, e_non_n, e_non_l, e_non_t, e_non_i, e_non_s, e_non_b, e_non_x, e_in_l, e_in_t, e_ni_l, e_ni_t, e_kin_l, e_kin_t, e_kin_s, e_ix_l, e_ix_t, e_ix_s, e_kix_l, e_kix_t, e_kix_s, e_sl_l, e_sl_t, e_sl_s, e_len_l, e_len_t, e_len_s, e_klen_l, e_klen_t, e_klen_s, e_kany, e_list_l, e_list_t, e_tup_l, e_tup_t, e_sum, e_max, e_max2, e_min, e_kne, e_kne2, e_all, e_str, e_kstr, e_int, e_kint, e_split, e_ksplit, e_part, e_kpart, e_join, e_kjoin, e_pys0, e_pys1, e_sa0, e_sa1, e_wipe0, e_wipe1, e_js0, e_js1, e_ty_i, e_ty_b, e_ty_n, e_ty_s, e_ty_l, e_ty_t, e_isi_ii, e_isi_ib, e_isi_in, e_isi_is, e_isi_il, e_isi_it, e_isi_bi, e_isi_bb, e_isi_bn, e_isi_bs, e_isi_bl, e_isi_bt, e_isi_li, e_isi_lb, e_isi_ln, e_isi_ls, e_isi_ll, e_isi_lt, e_isi_ti, e_isi_tb, e_isi_tn, e_isi_ts, e_isi_tl, e_isi_tt, e_isi_si, e_isi_sb, e_isi_sn, e_isi_ss, e_isi_sl, e_isi_st, e_up, e_st0, e_st1, e_st2, exists_eq_left, exists_eq_left', exists_eq_right, exists_eq_right', exists_eq', exists_eq, true_and, and_true, and_self, false_and, and_false, exists_and_left, exists_and_right, exists_const, Option.some.injEq, Option.map_some, Option.map_none, Sl.is.injEq, Sl.own.injEq, D.py.injEq, D.ex.injEq, D.rf.injEq, PyData.int.injEq, PyData.bool.injEq, PyData.str.injEq, PyData.list.injEq, PyData.tuple.injEq, List.cons.injEq, if_true, if_false, eq_self, Bool.false_eq_true, Bool.true_eq_false, Bool.not_true, Bool.not_false, Bool.not_not, List.getElem?_cons_zero, List.getElem?_cons_succ, List.set_cons_zero, List.set_cons_succ, List.length_cons, List.length_nil, List.cons_append, List.nil_append, reduceCtorEq, List.replicate_zero, List.replicate_succ, Nat.reduceAdd, Nat.reduceSub, decide_true, decide_false, intsOf_map', blsOf_map', strsOf_map', map_int_inj, map_str_inj, map_bool_inj, map_itD_inj, itD_iff, sh_int, sh_bool, sh_none, sh_itD, sh_nil, sh_ints, sh_its, eqv_int, eqv_bool, eqv_str, eqv_itD, eqv_ints, eqv_strs, eqv_its, eqv_nil, Nat.zero_le, and_assoc]
        simp only [itemsD, hi, optL] at n
        have e2 : ((Txt.split z ",").map fun p => optI (itemIn p)) = its.map itD := by
          have := congrArg (List.map optI) e
          rw [List.map_map, List.map_map] at this
          exact this
        rw [e2]
        exact n
  | _ =>
    simp only [w_items_in, wVar, wOwn, wC, wOp, wT, wChain, wAndT, wOrT, wNotT, wAnd, wOr, wNot, wIf, wNil, wCons, wDisp, wCall, wCall0, wNoPart, wPart, wSl, wRevL, wBlt, wItL, wItT, wItS, wRg1, wRg2, wEnum, wZip, wLR, wLR2, wYes, wM1, wFmt, wJoined, wIsi, wNeg, wNewD, wOwnCat, wPar2, wNext, wSeq, wNever, wSet, wNew, wAug, wExtend, wAppend, wPut, wFrz, wRet, wRetOwn, wRetN, wDrop, wIfS, wgName, wgTup, wUnp, wRaise, bodyEN, wLc, wFor, wSortSet, e_add_i, e_add_s, e_add_l, e_add_t, e_kadd_i, e_kadd_s, e_kadd_l, e_kadd_t, e_sub, e_kt, e_mul_i, e_mul_l, e_kmul_i, e_kmul_l, e_div, e_kdiv, e_mod, e_kmod, e_cmp, e_eq, e_ne, e_keq, e_is_n, e_is_b, e_isn_n, e_isn_b, e_non_n, e_non_l, e_non_t, e_non_i, e_non_s, e_non_b, e_non_x, e_in_l, e_in_t, e_ni_l, e_ni_t, e_kin_l, e_kin_t, e_kin_s, e_ix_l, e_ix_t, e_ix_s, e_kix_l, e_kix_t, e_kix_s, e_sl_l, e_sl_t, e_sl_s, e_len_l, e_len_t, e_len_s, e_klen_l, e_klen_t, e_klen_s, e_kany, e_list_l, e_list_t, e_tup_l, e_tup_t, e_sum, e_max, e_max2, e_min, e_kne, e_kne2, e_all, e_str, e_kstr, e_int, e_kint, e_split, e_ksplit, e_part, e_kpart, e_join, e_kjoin, e_pys0, e_pys1, e_sa0, e_sa1, e_wipe0, e_wipe1, e_js0, e_js1, e_ty_i, e_ty_b, e_ty_n, e_ty_s, e_ty_l, e_ty_t, e_isi_ii, e_isi_ib, e_isi_in, e_isi_is, e_isi_il, e_isi_it, e_isi_bi, e_isi_bb, e_isi_bn, e_isi_bs, e_isi_bl, e_isi_bt, e_isi_li, e_isi_lb, e_isi_ln, e_isi_ls, e_isi_ll, e_isi_lt, e_isi_ti, e_isi_tb, e_isi_tn, e_isi_ts, e_isi_tl, e_isi_tt, e_isi_si, e_isi_sb, e_isi_sn, e_isi_ss, e_isi_sl, e_isi_st, e_up, e_st0, e_st1, e_st2, exists_eq_left, exists_eq_left', exists_eq_right, exists_eq_right', exists_eq', exists_eq, true_and, and_true, and_self, false_and, and_false, exists_and_left, exists_and_right, exists_const, Option.some.injEq, Option.map_some, Option.map_none, Sl.is.injEq, Sl.own.injEq, D.py.injEq, D.ex.injEq, D.rf.injEq, PyData.int.injEq, PyData.bool.injEq, PyData.str.injEq, PyData.list.injEq, PyData.tuple.injEq, List.cons.injEq, if_true, if_false, eq_self, Bool.false_eq_true, Bool.true_eq_false, Bool.not_true, Bool.not_false, Bool.not_not, List.getElem?_cons_zero, List.getElem?_cons_succ, List.set_cons_zero, List.set_cons_succ, List.length_cons, List.length_nil, List.cons_append, List.nil_append, reduceCtorEq, List.replicate_zero, List.replicate_succ, Nat.reduceAdd, Nat.reduceSub, decide_true, decide_false, intsOf_map', blsOf_map', strsOf_map', map_int_inj, map_str_inj, map_bool_inj, map_itD_inj, itD_iff, sh_int, sh_bool, sh_none, sh_itD, sh_nil, sh_ints, sh_its, eqv_int, eqv_bool, eqv_str, eqv_itD, eqv_ints, eqv_strs, eqv_its, eqv_nil, Nat.zero_le, and_assoc]
    exact n
/-! ### sets that items mean -/
def setOf (its : List Itm) : List Int := ten.filter fun n => its.any fun q => decide (n ∈ numbersOf q)
theorem numbersOf_ten {q : Itm} {k : Int} (h : k ∈ numbersOf q) : k ∈ ten := (List.mem_filter.mp h).1
theorem ten_asc : ten.Pairwise (· < ·) := by decide
theorem setOf_asc (its : List Itm) : (setOf its).Pairwise (· < ·) := List.Pairwise.filter _ ten_asc
theorem mem_setOf {its : List Itm} {k : Int} : k ∈ setOf its ↔ ∃ q ∈ its, k ∈ numbersOf q := by
  unfold setOf
  rw [List.mem_filter, List.any_eq_true]
  constructor
  · rintro ⟨_, q, h1, h2⟩
    exact ⟨q, h1, of_decide_eq_true h2⟩
  · rintro ⟨q, h1, h2⟩
    exact ⟨numbersOf_ten h2, q, h1, decide_eq_true h2⟩
theorem setL_ten {ns r : List Int} (h : ∀ k ∈ ns, k ∈ ten) (hr : r.Pairwise (· < ·)) (hm : ∀ k, k ∈ r ↔ k ∈ ns) : setL ns = r :=
  asc_uniq (setL_asc ns) hr fun k => by
    rw [mem_setL (fun k hk => by have := ten_iff.mp (h k hk); omega) k, hm k]
theorem setOf_eq (its : List Itm) : setL (its.flatMap numbersOf) = setOf its := by
  refine setL_ten (fun k hk => ?_) (setOf_asc its) fun k => ?_
  · obtain ⟨q, _, h⟩ := List.mem_flatMap.mp hk
    exact numbersOf_ten h
  · rw [mem_setOf, List.mem_flatMap]
theorem setOf_subs (its : List Itm) : setOf its ∈ subs ten := filter_subs _ _
def sp_set_of : Spec0 := fun ds N _ => ∃ its : List Itm, ds = [.py (.list (its.map itD))] ∧ its.all itemOk = true ∧ its.length ≤ 400 ∧ N (.py (.list ((setOf its).map .int)))
def w_set_of : WS Unit :=
  wSeq (wNew 1) (wSeq (wFor (wItL (wVar 0)) (wgName 2) (wExtend 1 (wCall0 sp_numbers_of (wCons (wVar 2) (wNil))))) (wFrz 1 (wRet (wSortSet (wVar 1)))))
theorem flat_len {its : List Itm} (h : its.all itemOk = true) : (its.flatMap numbersOf).length ≤ 10 * its.length := by
  induction its with
  | nil => simp
  | cons q its ih =>
    simp only [List.all_cons, Bool.and_eq_true] at h
    have h1 := (rg_items q (item_mem.mp h.1)).2.2
    have h2 := ih h.2
    simp only [List.flatMap_cons, List.length_append, List.length_cons]
    omega
theorem law_set_of : ∀ ds θ N Nx, sp_set_of.up ds θ N Nx → w_set_of (bodyEN N Nx) (startD 3 ds) θ := by
  rintro ds θ N Nx ⟨its, rfl, ok, hl, n⟩
  simp only [w_set_of, wVar, wOwn, wC, wOp, wT, wChain, wAndT, wOrT, wNotT, wAnd, wOr, wNot, wIf, wNil, wCons, wDisp, wCall, wCall0, wNoPart, wPart, wSl, wRevL, wBlt, wItL, wItT, wItS, wRg1, wRg2, wEnum, wZip, wLR, wLR2, wYes, wM1, wFmt, wJoined, wIsi, wNeg, wNewD, wOwnCat, wPar2, wNext, wSeq, wNever, wSet, wNew, wAug, wExtend, wAppend, wPut, wFrz, wRet, wRetOwn, wRetN, wDrop, wIfS, wgName, wgTup, wUnp, wRaise, bodyEN, wLc, wFor, wSortSet, e_add_i, e_add_s, e_add_l, e_add_t, e_kadd_i, e_kadd_s, e_kadd_l, e_kadd_t, e_sub, e_kt, e_mul_i, e_mul_l, e_kmul_i, e_kmul_l, e_div, e_kdiv, e_mod, e_kmod, e_cmp, e_eq, e_ne, e_keq, e_is_n, e_is_b, e_isn_n, e_isn_b, e_non_n, e_non_l, e_non_t, e_non_i, e_non_s, e_non_b, e_non_x, e_in_l, e_in_t, e_ni_l, e_ni_t, e_kin_l, e_kin_t, e_kin_s, e_ix_l, e_ix_t, e_ix_s, e_kix_l, e_kix_t, e_kix_s, e_sl_l, e_sl_t, e_sl_s, e_len_l, e_len_t, e_len_s, e_klen_l, e_klen_t, e_klen_s, e_kany, e_list_l, e_list_t, e_tup_l, e_tup_t, e_sum, e_max, e_max2, e_min, e_kne, e_kne2, e_all, e_str, e_kstr, e_int, e_kint, e_split, e_ksplit, e_part, e_kpart, e_join, e_kjoin, e_pys0, e_pys1, e_sa0, e_sa1, e_wipe0, e_wipe1, e_js0, e_js1, e_ty_i, e_ty_b, e_ty_n, e_ty_s, e_ty_l, e_ty_t, e_isi_ii, e_isi_ib, e_isi_in, e_isi_is, e_isi_il, e_isi_it, e_isi_bi, e_isi_bb, e_isi_bn, e_isi_bs, e_isi_bl, e_isi_bt, e_isi_li, e_isi_lb, e_isi_ln, e_isi_ls, e_isi_ll, e_isi_lt, e_isi_ti, e_isi_tb, e_isi_tn, e_isi_ts, e_isi_tl, e_isi_tt, e_isi_si, e_isi_sb, e_isi_sn, e_isi_ss, e_isi_sl, e_isi_st, e_up, e_st0, e_st1, e_st2, exists_eq_left, exists_eq_left', exists_eq_right, exists_eq_right', exists_eq', exists_eq, true_and, and_true, and_self, false_and, and_false, exists_and_left, exists_and_right, exists_const, Option.some.injEq, Option.map_some, Option.map_none, Sl.is.injEq, Sl.own.injEq, D.py.injEq, D.ex.injEq, D.rf.injEq, PyData.int.injEq, PyData.bool.injEq, PyData.str.injEq, PyData.list.injEq, PyData.tuple.injEq, List.cons.injEq, if_true, if_false, eq_self, Bool.false_eq_true, Bool.true_eq_false, Bool.not_true, Bool.not_false, Bool.not_not, List.getElem?_cons_zero, List.getElem?_cons_succ, List.set_cons_zero, List.set_cons_succ, List.length_cons, List.length_nil, List.cons_append, List.nil_append, reduceCtorEq, List.replicate_zero, List.replicate_succ, Nat.reduceAdd, Nat.reduceSub, decide_true, decide_false, intsOf_map', blsOf_map', strsOf_map', map_int_inj, map_str_inj, map_bool_inj, map_itD_inj, itD_iff, sh_int, sh_bool, sh_none, sh_itD, sh_nil, sh_ints, sh_its, eqv_int, eqv_bool, eqv_str, eqv_itD, eqv_ints, eqv_strs, eqv_its, eqv_nil, Nat.zero_le, and_assoc, List.map_map]
  refine forGo_inv (D.py ∘ itD) (fun (xs : List Itm) (ρ : DS) (_ : Unit) => ∃ (ys : List Itm) (x : Sl), its = ys ++ xs ∧ ρ = [.is (.py (.list (its.map itD))), .own ((ys.flatMap numbersOf).map .int), x]) (fun q xs ρ θ h R hR => ?_) (fun ρ θ h => ?_) its _ _ ⟨[], .no, rfl, rfl⟩
  · obtain ⟨ys, x, e, rfl⟩ := h
    have okq : itemOk q = true := List.all_eq_true.mp ok q (by rw [e]; simp)
    simp only [sp_numbers_of, Function.comp, wVar, wOwn, wC, wOp, wT, wChain, wAndT, wOrT, wNotT, wAnd, wOr, wNot, wIf, wNil, wCons, wDisp, wCall, wCall0, wNoPart, wPart, wSl, wRevL, wBlt, wItL, wItT, wItS, wRg1, wRg2, wEnum, wZip, wLR, wLR2, wYes, wM1, wFmt, wJoined, wIsi, wNeg, wNewD, wOwnCat, wPar2, wNext, wSeq, wNever, wSet, wNew, wAug, wExtend, wAppend, wPut, wFrz, wRet, wRetOwn, wRetN, wDrop, wIfS, wgName, wgTup, wUnp, wRaise, bodyEN, wLc, wFor, wSortSet, e_add_i, e_add_s, e_add_l, e_add_t, e_kadd_i, e_kadd_s, e_kadd_l, e_kadd_t, e_sub, e_kt, e_mul_i, e_mul_l, e_kmul_i, e_kmul_l, e_div, e_kdiv, e_mod, e_kmod, e_cmp, e_eq, e_ne, e_keq, e_is_n, e_is_b, e_isn_n, e_isn_b, e_non_n, e_non_l, e_non_t, e_non_i, e_non_s, e_non_b, e_non_x, e_in_l, e_in_t, e_ni_l, e_ni_t, e_kin_l, e_kin_t, e_kin_s, e_ix_l, e_ix_t, e_ix_s, e_kix_l, e_kix_t, e_kix_s, e_sl_l, e_sl_t, e_sl_s, e_len_l, e_len_t, e_len_s, e_klen_l, e_klen_t, e_klen_s, e_kany, e_list_l, e_list_t, e_tup_l, e_tup_t, e_sum, e_max, e_max2, e_min, e_kne, e_kne2, e_all, e_str, e_kstr, e_int, e_kint, e_split, e_ksplit, e_part, e_kpart, e_join, e_kjoin, e_pys0, e_pys1, e_sa0, e_sa1, e_wipe0, e_wipe1, e_js0, e_js1, e_ty_i, e_ty_b, e_ty_n, e_ty_s, e_ty_l, e_ty_t, e_isi_ii, e_isi_ib, e_isi_in, e_isi_is, e_isi_il, e_isi_it, e_isi_bi, e_isi_bb, e_isi_bn, e_isi_bs, e_isi_bl, e_isi_bt, e_isi_li, e_isi_lb, e_isi_ln, e_isi_ls, e_isi_ll, e_isi_lt, e_isi_ti, e_isi_tb, e_isi_tn, e_isi_ts, e_isi_tl, e_isi_tt, e_isi_si, e_isi_sb, e_isi_sn, e_isi_ss, e_isi_sl, e_isi_st, e_up, e_st0, e_st1, e_st2, exists_eq_left, exists_eq_left', exists_eq_right, exists_eq_right', exists_eq', exists_eq, true_and, and_true, and_self, false_and, and_false, exists_and_left, exists_and_right, exists_const, Option.some.injEq, Option.map_some, Option.map_none, Sl.is.injEq, Sl.own.injEq, D.py.injEq, D.ex.injEq, D.rf.injEq, PyData.int.injEq, PyData.bool.injEq, PyData.str.injEq, PyData.list.injEq, PyData.tuple.injEq, List.cons.injEq, if_true, if_false, eq_self, Bool.false_eq_true, Bool.true_eq_false, Bool.not_true, Bool.not_false, Bool.not_not, List.getElem?_cons_zero, List.getElem?_cons_succ, List.set_cons_zero, List.set_cons_succ, List.length_cons, List.length_nil, List.cons_append, List.nil_append, reduceCtorEq, List.replicate_zero, List.replicate_succ, Nat.reduceAdd, Nat.reduceSub, decide_true, decide_false, intsOf_map', blsOf_map', strsOf_map', map_int_inj, map_str_inj, map_bool_inj, map_itD_inj, itD_iff, sh_int, sh_bool, sh_none, sh_itD, sh_nil, sh_ints, sh_its, eqv_int, eqv_bool, eqv_str, eqv_itD, eqv_ints, eqv_strs, eqv_its, eqv_nil, Nat.zero_le, and_assoc]
    refine ⟨q, rfl, rfl, rfl, okq, ?_, hR _ _ ⟨ys ++ [q], .is (.py (itD q)), by rw [e]; simp, ?_⟩⟩
    · have h1 := flat_len (its := ys) (by
        rw [List.all_eq_true] at ok ⊢
        exact fun z hz => ok z (by rw [e]; exact List.mem_append_left _ hz))
      have h2 := (rg_items q (item_mem.mp okq)).2.2
      have h3 : its.length = ys.length + (xs.length + 1) := by rw [e]; simp
      rw [List.length_map, List.length_map]
      exact le_line (by omega)
    · simp
  · obtain ⟨ys, x, e, rfl⟩ := h
    simp only [wVar, wOwn, wC, wOp, wT, wChain, wAndT, wOrT, wNotT, wAnd, wOr, wNot, wIf, wNil, wCons, wDisp, wCall, wCall0, wNoPart, wPart, wSl, wRevL, wBlt, wItL, wItT, wItS, wRg1, wRg2, wEnum, wZip, wLR, wLR2, wYes, wM1, wFmt, wJoined, wIsi, wNeg, wNewD, wOwnCat, wPar2, wNext, wSeq, wNever, wSet, wNew, wAug, wExtend, wAppend, wPut, wFrz, wRet, wRetOwn, wRetN, wDrop, wIfS, wgName, wgTup, wUnp, wRaise, bodyEN, wLc, wFor, wSortSet, e_add_i, e_add_s, e_add_l, e_add_t, e_kadd_i, e_kadd_s, e_kadd_l, e_kadd_t, e_sub, e_kt, e_mul_i, e_mul_l, e_kmul_i, e_kmul_l, e_div, e_kdiv, e_mod, e_kmod, e_cmp, e_eq, e_ne, e_keq, e_is_n, e_is_b, e_isn_n, e_isn_b, e_non_n, e_non_l, e_non_t, e_non_i, e_non_s, e_non_b, e_non_x, e_in_l, e_in_t, e_ni_l, e_ni_t, e_kin_l, e_kin_t, e_kin_s, e_ix_l, e_ix_t, e_ix_s, e_kix_l, e_kix_t, e_kix_s, e_sl_l, e_sl_t, e_sl_s, e_len_l, e_len_t, e_len_s, e_klen_l, e_klen_t, e_klen_s, e_kany, e_list_l, e_list_t, e_tup_l, e_tup_t, e_sum, e_max, e_max2, e_min, e_kne, e_kne2, e_all, e_str, e_kstr, e_int, e_kint, e_split, e_ksplit, e_part, e_kpart, e_join, e_kjoin, e_pys0, e_pys1, e_sa0, e_sa1, e_wipe0, e_wipe1, e_js0, e_js1, e_ty_i, e_ty_b, e_ty_n, e_ty_s, e_ty_l, e_ty_t, e_isi_ii, e_isi_ib, e_isi_in, e_isi_is, e_isi_il, e_isi_it, e_isi_bi, e_isi_bb, e_isi_bn, e_isi_bs, e_isi_bl, e_isi_bt, e_isi_li, e_isi_lb, e_isi_ln, e_isi_ls, e_isi_ll, e_isi_lt, e_isi_ti, e_isi_tb, e_isi_tn, e_isi_ts, e_isi_tl, e_isi_tt, e_isi_si, e_isi_sb, e_isi_sn, e_isi_ss, e_isi_sl, e_isi_st, e_up, e_st0, e_st1, e_st2, exists_eq_left, exists_eq_left', exists_eq_right, exists_eq_right', exists_eq', exists_eq, true_and, and_true, and_self, false_and, and_false, exists_and_left, exists_and_right, exists_const, Option.some.injEq, Option.map_some, Option.map_none, Sl.is.injEq, Sl.own.injEq, D.py.injEq, D.ex.injEq, D.rf.injEq, PyData.int.injEq, PyData.bool.injEq, PyData.str.injEq, PyData.list.injEq, PyData.tuple.injEq, List.cons.injEq, if_true, if_false, eq_self, Bool.false_eq_true, Bool.true_eq_false, Bool.not_true, Bool.not_false, Bool.not_not, List.getElem?_cons_zero, List.getElem?_cons_succ, List.set_cons_zero, List.set_cons_succ, List.length_cons, List.length_nil, List.cons_append, List.nil_append, reduceCtorEq, List.replicate_zero, List.replicate_succ, Nat.reduceAdd, Nat.reduceSub, decide_true, decide_false, intsOf_map', blsOf_map', strsOf_map', map_int_inj, map_str_inj, map_bool_inj, map_itD_inj, itD_iff, sh_int, sh_bool, sh_none, sh_itD, sh_nil, sh_ints, sh_its, eqv_int, eqv_bool, eqv_str, eqv_itD, eqv_ints, eqv_strs, eqv_its, eqv_nil, Nat.zero_le, and_assoc]
    have ey : ys = its := by rw [e]; simp
    subst ey
    refine ⟨?_, fun k hk => ?_, ?_⟩
    · have := flat_len ok
      omega
    · obtain ⟨q, _, h⟩ := List.mem_flatMap.mp hk
      have := ten_iff.mp (numbersOf_ten h)
      omega
    · rw [setOf_eq]
      exact n
end RT
end
section
set_option Elab.async false
set_option linter.all false
set_option maxRecDepth 100000
set_option maxHeartbeats 4000000
namespace RT
open PySem PySem.Spec PyProof.Rows L2
/-! ### texts: the given functions -/
theorem items_ok {d : PyData} {its : List Itm} (h : itemsD d = some its) : its.all itemOk = true := by
  cases d with
  | str z =>
    have e := mapM_some.mp (show (Txt.split z ",").mapM itemIn = some its from h)
    rw [List.all_eq_true]
    intro q hq
    have : some q ∈ (Txt.split z ",").map itemIn := by
      rw [e]
      exact List.mem_map.mpr ⟨q, hq, rfl⟩
    obtain ⟨p, _, hp⟩ := List.mem_map.mp this
    exact (itemIn_some.mp hp).1
  | _ => cases h
theorem optL_some (its : List Itm) : optL (some its) = .list (its.map itD) := rfl
theorem optL_none : optL none = .none := rfl
def sp_check_text : Spec0 := fun ds N Nx => ∃ d, ds = [.py d] ∧ TFine d ∧ (match itemsD d with | some _ => N (.py .none) | none => Nx .text)
def w_check_text : WS Unit :=
  wIfS (wT (wOp fIs kTrue (wCall0 sp_items_in (wCons (wVar 0) (wNil))) (wC .none))) (wRaise .text) (wNext)
theorem law_check_text : ∀ ds θ N Nx, sp_check_text.up ds θ N Nx → w_check_text (bodyEN N Nx) (startD 1 ds) θ := by
  rintro ds θ N Nx ⟨d, rfl, fn, n⟩
  simp only [w_check_text, sp_items_in, wVar, wOwn, wC, wOp, wT, wChain, wAndT, wOrT, wNotT, wAnd, wOr, wNot, wIf, wNil, wCons, wDisp, wCall, wCall0, wNoPart, wPart, wSl, wRevL, wBlt, wItL, wItT, wItS, wRg1, wRg2, wEnum, wZip, wLR, wLR2, wYes, wM1, wFmt, wJoined, wIsi, wNeg, wNewD, wOwnCat, wPar2, wNext, wSeq, wNever, wSet, wNew, wAug, wExtend, wAppend, wPut, wFrz, wRet, wRetOwn, wRetN, wDrop, wIfS, wgName, wgTup, wUnp, wRaise, bodyEN, wLc, wFor, wSortSet, e_add_i, e_add_s, e_add_l, e_add_t, e_kadd_i, e_kadd_s, e_kadd_l, e_kadd_t, e_sub, e_kt, e_mul_i, e_mul_l, e_kmul_i, e_kmul_l, e_div, e_kdiv, e_mod, e_kmod, e_cmp, e_eq, e_ne, e_keq, e_is_n, e_is_b, e_isn_n, e_isn_b, e_non_n, e_non_l, e_non_t, e_non_i, e_non_s, e_non_b, e_non_x, e_in_l, e_in_t, e_ni_l, e_ni_t, e_kin_l, e_kin_t, e_kin_s, e_ix_l, e_ix_t, e_ix_s, e_kix_l, e_kix_t, e_kix_s, e_sl_l, e_sl_t, e_sl_s, e_len_l, e_len_t, e_len_s, e_klen_l, e_klen_t, e_klen_s, e_kany, e_list_l, e_list_t, e_tup_l, e_tup_t, e_sum, e_max, e_max2, e_min, e_kne, e_kne2, e_all, e_str, e_kstr, e_int, e_kint, e_split, e_ksplit, e_part, e_kpart, e_join, e_kjoin, e_pys0, e_pys1, e_sa0, e_sa1, e_wipe0, e_wipe1, e_js0, e_js1, e_ty_i, e_ty_b, e_ty_n, e_ty_s, e_ty_l, e_ty_t, e_isi_ii, e_isi_ib, e_isi_in, e_isi_is, e_isi_il, e_isi_it, e_isi_bi, e_isi_bb, e_isi_bn, e_isi_bs, e_isi_bl, e_isi_bt, e_isi_li, e_isi_lb, e_isi_ln, e_isi_ls, e_isi_ll, e_isi_lt, e_isi_ti, e_isi_tb, e_isi_tn, e_isi_ts, e_isi_tl, e_isi_tt, e_isi_si, e_isi_sb, e_isi_sn, e_isi_ss, e_isi_sl, e_isi_st, e_up, e_st0, e_st1, e_st2, exists_eq_left, exists_eq_left', exists_eq_right, exists_eq_right', exists_eq', exists_eq, true_and, and_true, and_self, false_and, and_false, exists_and_left, exists_and_right, exists_const, Option.some.injEq, Option.map_some, Option.map_none, Sl.is.injEq, Sl.own.injEq, D.py.injEq, D.ex.injEq, D.rf.injEq, PyData.int.injEq, PyData.bool.injEq, PyData.str.injEq, PyData.list.injEq, PyData.tuple.injEq, List.cons.injEq, if_true, if_false, eq_self, Bool.false_eq_true, Bool.true_eq_false, Bool.not_true, Bool.not_false, Bool.not_not, List.getElem?_cons_zero, List.getElem?_cons_succ, List.set_cons_zero, List.set_cons_succ, List.length_cons, List.length_nil, List.cons_append, List.nil_append, reduceCtorEq, List.replicate_zero, List.replicate_succ, Nat.reduceAdd, Nat.reduceSub, decide_true, decide_false, intsOf_map', blsOf_map', strsOf_map', map_int_inj, map_str_inj, map_bool_inj, map_itD_inj, itD_iff, sh_int, sh_bool, sh_none, sh_itD, sh_nil, sh_ints, sh_its, eqv_int, eqv_bool, eqv_str, eqv_itD, eqv_ints, eqv_strs, eqv_its, eqv_nil, Nat.zero_le, and_assoc]
  refine ⟨fn, ?_⟩
  cases h : itemsD d <;> simp only [h, optL_some, optL_none, wVar, wOwn, wC, wOp, wT, wChain, wAndT, wOrT, wNotT, wAnd, wOr, wNot, wIf, wNil, wCons, wDisp, wCall, wCall0, wNoPart, wPart, wSl, wRevL, wBlt, wItL, wItT, wItS, wRg1, wRg2, wEnum, wZip, wLR, wLR2, wYes, wM1, wFmt, wJoined, wIsi, wNeg, wNewD, wOwnCat, wPar2, wNext, wSeq, wNever, wSet, wNew, wAug, wExtend, wAppend, wPut, wFrz, wRet, wRetOwn, wRetN, wDrop, wIfS, wgName, wgTup, wUnp, wRaise, bodyEN, wLc, wFor, wSortSet, e_add_i, e_add_s, e_add_l, e_add_t, e_kadd_i, e_kadd_s, e_kadd_l, e_kadd_t, e_sub, e_kt, e_mul_i, e_mul_l, e_kmul_i, e_kmul_l, e_div, e_kdiv, e_mod, e_kmod, e_cmp, e_eq, e_ne, e_keq, e_is_n, e_is_b, e_isn_n, e_isn_b, e_non_n, e_non_l, e_non_t, e_non_i, e_non_s, e_non_b, e_non_x, e_in_l, e_in_t, e_ni_l, e_ni_t, e_kin_l, e_kin_t, e_kin_s, e_ix_l, e_ix_t, e_ix_s, e_kix_l, e_kix_t, e_kix_s, e_sl_l, e_sl_t, e_sl_s, e_len_l, e_len_t, e_len_s, e_klen_l, e_klen_t, e_klen_s, e_kany, e_list_l, e_list_t, e_tup_l, e_tup_t, e_sum, e_max, e_max2, e_min, e_kne, e_kne2, e_all, e_str, e_kstr, e_int, e_kint, e_split, e_ksplit, e_part, e_kpart, e_join, e_kjoin, e_pys0, e_pys1, e_sa0, e_sa1, e_wipe0, e_wipe1, e_js0, e_js1, e_ty_i, e_ty_b, e_ty_n, e_ty_s, e_ty_l, e_ty_t, e_isi_ii, e_isi_ib, e_isi_in, e_isi_is, e_isi_il, e_isi_it, e_isi_bi, e_isi_bb, e_isi_bn, e_isi_bs, e_isi_bl, e_isi_bt, e_isi_li, e_isi_lb, e_isi_ln, e_isi_ls, e_isi_ll, e_isi_lt, e_isi_ti, e_isi_tb, e_isi_tn, e_isi_ts, e_isi_tl, e_isi_tt, e_isi_si, e_isi_sb, e_isi_sn, e_isi_ss, e_isi_sl, e_isi_st, e_up, e_st0, e_st1, e_st2, exists_eq_left, exists_eq_left', exists_eq_right, exists_eq_right', exists_eq', exists_eq, true_and, and_true, and_self, false_and, and_false, exists_and_left, exists_and_right, exists_const, Option.some.injEq, Option.map_some, Option.map_none, Sl.is.injEq, Sl.own.injEq, D.py.injEq, D.ex.injEq, D.rf.injEq, PyData.int.injEq, PyData.bool.injEq, PyData.str.injEq, PyData.list.injEq, PyData.tuple.injEq, List.cons.injEq, if_true, if_false, eq_self, Bool.false_eq_true, Bool.true_eq_false, Bool.not_true, Bool.not_false, Bool.not_not, List.getElem?_cons_zero, List.getElem?_cons_succ, List.set_cons_zero, List.set_cons_succ, List.length_cons, List.length_nil, List.cons_append, List.nil_append, reduceCtorEq, List.replicate_zero, List.replicate_succ, Nat.reduceAdd, Nat.reduceSub, decide_true, decide_false, intsOf_map', blsOf_map', strsOf_map', map_int_inj, map_str_inj, map_bool_inj, map_itD_inj, itD_iff, sh_int, sh_bool, sh_none, sh_itD, sh_nil, sh_ints, sh_its, eqv_int, eqv_bool, eqv_str, eqv_itD, eqv_ints, eqv_strs, eqv_its, eqv_nil, Nat.zero_le, and_assoc] at n ⊢ <;> exact n
def sp_parse : Spec0 := fun ds N Nx => ∃ d, ds = [.py d] ∧ TFine d ∧ (match itemsD d with | some its => its.length ≤ 400 ∧ N (.py (.list ((setOf its).map .int))) | none => Nx .text)
def w_parse : WS Unit :=
  wSeq (wDrop (wCall0 sp_check_text (wCons (wVar 0) (wNil)))) (wRet (wCall0 sp_set_of (wCons (wCall0 sp_items_in (wCons (wVar 0) (wNil))) (wNil))))
theorem law_parse : ∀ ds θ N Nx, sp_parse.up ds θ N Nx → w_parse (bodyEN N Nx) (startD 1 ds) θ := by
  rintro ds θ N Nx ⟨d, rfl, fn, n⟩
  simp only [w_parse, sp_check_text, sp_items_in, wVar, wOwn, wC, wOp, wT, wChain, wAndT, wOrT, wNotT, wAnd, wOr, wNot, wIf, wNil, wCons, wDisp, wCall, wCall0, wNoPart, wPart, wSl, wRevL, wBlt, wItL, wItT, wItS, wRg1, wRg2, wEnum, wZip, wLR, wLR2, wYes, wM1, wFmt, wJoined, wIsi, wNeg, wNewD, wOwnCat, wPar2, wNext, wSeq, wNever, wSet, wNew, wAug, wExtend, wAppend, wPut, wFrz, wRet, wRetOwn, wRetN, wDrop, wIfS, wgName, wgTup, wUnp, wRaise, bodyEN, wLc, wFor, wSortSet, e_add_i, e_add_s, e_add_l, e_add_t, e_kadd_i, e_kadd_s, e_kadd_l, e_kadd_t, e_sub, e_kt, e_mul_i, e_mul_l, e_kmul_i, e_kmul_l, e_div, e_kdiv, e_mod, e_kmod, e_cmp, e_eq, e_ne, e_keq, e_is_n, e_is_b, e_isn_n, e_isn_b, e_non_n, e_non_l, e_non_t, e_non_i, e_non_s, e_non_b, e_non_x, e_in_l, e_in_t, e_ni_l, e_ni_t, e_kin_l, e_kin_t, e_kin_s, e_ix_l, e_ix_t, e_ix_s, e_kix_l, e_kix_t, e_kix_s, e_sl_l, e_sl_t, e_sl_s, e_len_l, e_len_t, e_len_s, e_klen_l, e_klen_t, e_klen_s, e_kany, e_list_l, e_list_t, e_tup_l, e_tup_t, e_sum, e_max, e_max2, e_min, e_kne, e_kne2, e_all, e_str, e_kstr, e_int, e_kint, e_split, e_ksplit, e_part, e_kpart, e_join, e_kjoin, e_pys0, e_pys1, e_sa0, e_sa1, e_wipe0, e_wipe1, e_js0, e_js1, e_ty_i, e_ty_b, e_ty_n, e_ty_s, e_ty_l, e_ty_t, e_isi_ii, e_isi_ib, e_isi_in, e_isi_is, e_isi_il, e_isi_it, e_isi_bi, e_isi_bb, e_isi_bn, e_isi_bs, e_isi_bl, e_isi_bt, e_isi_li, e_isi_lb, e_isi_ln, e_isi_ls, e_isi_ll, e_isi_lt, e_isi_ti, e_isi_tb, e_isi_tn, e_isi_ts, e_isi_tl, e_isi_tt, e_isi_si, e_isi_sb, e_isi_sn, e_isi_ss, e_isi_sl, e_isi_st, e_up, e_st0, e_st1, e_st2, exists_eq_left, exists_eq_left', exists_eq_right, exists_eq_right', exists_eq', exists_eq, true_and, and_true, and_self, false_and, and_false, exists_and_left, exists_and_right, exists_const, Option.some.injEq, Option.map_some, Option.map_none, Sl.is.injEq, Sl.own.injEq, D.py.injEq, D.ex.injEq, D.rf.injEq, PyData.int.injEq, PyData.bool.injEq, PyData.str.injEq, PyData.list.injEq, PyData.tuple.injEq, List.cons.injEq, if_true, if_false, eq_self, Bool.false_eq_true, Bool.true_eq_false, Bool.not_true, Bool.not_false, Bool.not_not, List.getElem?_cons_zero, List.getElem?_cons_succ, List.set_cons_zero, List.set_cons_succ, List.length_cons, List.length_nil, List.cons_append, List.nil_append, reduceCtorEq, List.replicate_zero, List.replicate_succ, Nat.reduceAdd, Nat.reduceSub, decide_true, decide_false, intsOf_map', blsOf_map', strsOf_map', map_int_inj, map_str_inj, map_bool_inj, map_itD_inj, itD_iff, sh_int, sh_bool, sh_none, sh_itD, sh_nil, sh_ints, sh_its, eqv_int, eqv_bool, eqv_str, eqv_itD, eqv_ints, eqv_strs, eqv_its, eqv_nil, Nat.zero_le, and_assoc]
  refine ⟨fn, ?_⟩
  cases h : itemsD d with
  | none => simp only [h, wVar, wOwn, wC, wOp, wT, wChain, wAndT, wOrT, wNotT, wAnd, wOr, wNot, wIf, wNil, wCons, wDisp, wCall, wCall0, wNoPart, wPart, wSl, wRevL, wBlt, wItL, wItT, wItS, wRg1, wRg2, wEnum, wZip, wLR, wLR2, wYes, wM1, wFmt, wJoined, wIsi, wNeg, wNewD, wOwnCat, wPar2, wNext, wSeq, wNever, wSet, wNew, wAug, wExtend, wAppend, wPut, wFrz, wRet, wRetOwn, wRetN, wDrop, wIfS, wgName, wgTup, wUnp, wRaise, bodyEN, wLc, wFor, wSortSet, e_add_i, e_add_s, e_add_l, e_add_t, e_kadd_i, e_kadd_s, e_kadd_l, e_kadd_t, e_sub, e_kt, e_mul_i, e_mul_l, e_kmul_i, e_kmul_l, e_div, e_kdiv, e_mod, e_kmod, e_cmp, e_eq, e_ne, e_keq, e_is_n, e_is_b, e_isn_n, e_isn_b, e_non_n, e_non_l, e_non_t, e_non_i, e_non_s, e_non_b, e_non_x, e_in_l, e_in_t, e_ni_l, e_ni_t, e_kin_l, e_kin_t, e_kin_s, e_ix_l, e_ix_t, e_ix_s, e_kix_l, e_kix_t, e_kix_s, e_sl_l, e_sl_t, e_sl_s, e_len_l, e_len_t, e_len_s, e_klen_l, e_klen_t, e_klen_s, e_kany, e_list_l, e_list_t, e_tup_l, e_tup_t, e_sum, e_max, e_max2, e_min, e_kne, e_kne2, e_all, e_str, e_kstr, e_int, e_kint, e_split, e_ksplit, e_part, e_kpart, e_join, e_kjoin, e_pys0, e_pys1, e_sa0, e_sa1, e_wipe0, e_wipe1, e_js0, e_js1, e_ty_i, e_ty_b, e_ty_n, e_ty_s, e_ty_l, e_ty_t, e_isi_ii, e_isi_ib, e_isi_in, e_isi_is, e_isi_il, e_isi_it, e_isi_bi, e_isi_bb, e_isi_bn, e_isi_bs, e_isi_bl, e_isi_bt, e_isi_li, e_isi_lb, e_isi_ln, e_isi_ls, e_isi_ll, e_isi_lt, e_isi_ti, e_isi_tb, e_isi_tn, e_isi_ts, e_isi_tl, e_isi_tt, e_isi_si, e_isi_sb, e_isi_sn, e_isi_ss, e_isi_sl, e_isi_st, e_up, e_st0, e_st1, e_st2, exists_eq_left, exists_eq_left', exists_eq_right, exists_eq_right', exists_eq', exists_eq, true_and, and_true, and_self, false_and, and_false, exists_and_left, exists_and_right, exists_const, Option.some.injEq, Option.map_some, Option.map_none, Sl.is.injEq, Sl.own.injEq, D.py.injEq, D.ex.injEq, D.rf.injEq, PyData.int.injEq, PyData.bool.injEq, PyData.str.injEq, PyData.list.injEq, PyData.tuple.injEq, List.cons.injEq, if_true, if_false, eq_self, Bool.false_eq_true, Bool.true_eq_false, Bool.not_true, Bool.not_false, Bool.not_not, List.getElem?_cons_zero, List.getElem?_cons_succ, List.set_cons_zero, List.set_cons_succ, List.length_cons, List.length_nil, List.cons_append, List.nil_append, reduceCtorEq, List.replicate_zero, List.replicate_succ, Nat.reduceAdd, Nat.reduceSub, decide_true, decide_false, intsOf_map', blsOf_map', strsOf_map', map_int_inj, map_str_inj, map_bool_inj, map_itD_inj, itD_iff, sh_int, sh_bool, sh_none, sh_itD, sh_nil, sh_ints, sh_its, eqv_int, eqv_bool, eqv_str, eqv_itD, eqv_ints, eqv_strs, eqv_its, eqv_nil, Nat.zero_le, and_assoc] at n ⊢; exact n
  | some its =>
    simp only [h, wVar, wOwn, wC, wOp, wT, wChain, wAndT, wOrT, wNotT, wAnd, wOr, wNot, wIf, wNil, wCons, wDisp, wCall, wCall0, wNoPart, wPart, wSl, wRevL, wBlt, wItL, wItT, wItS, wRg1, wRg2, wEnum, wZip, wLR, wLR2, wYes, wM1, wFmt, wJoined, wIsi, wNeg, wNewD, wOwnCat, wPar2, wNext, wSeq, wNever, wSet, wNew, wAug, wExtend, wAppend, wPut, wFrz, wRet, wRetOwn, wRetN, wDrop, wIfS, wgName, wgTup, wUnp, wRaise, bodyEN, wLc, wFor, wSortSet, e_add_i, e_add_s, e_add_l, e_add_t, e_kadd_i, e_kadd_s, e_kadd_l, e_kadd_t, e_sub, e_kt, e_mul_i, e_mul_l, e_kmul_i, e_kmul_l, e_div, e_kdiv, e_mod, e_kmod, e_cmp, e_eq, e_ne, e_keq, e_is_n, e_is_b, e_isn_n, e_isn_b, e_non_n, e_non_l, e_non_t, e_non_i, e_non_s, e_non_b, e_non_x, e_in_l, e_in_t, e_ni_l, e_ni_t, e_kin_l, e_kin_t, e_kin_s, e_ix_l, e_ix_t, e_ix_s, e_kix_l, e_kix_t, e_kix_s, e_sl_l, e_sl_t, e_sl_s, e_len_l, e_len_t, e_len_s, e_klen_l, e_klen_t, e_klen_s, e_kany, e_list_l, e_list_t, e_tup_l, e_tup_t, e_sum, e_max, e_max2, e_min, e_kne, e_kne2, e_all, e_str, e_kstr, e_int, e_kint, e_split, e_ksplit, e_part, e_kpart, e_join, e_kjoin, e_pys0, e_pys1, e_sa0, e_sa1, e_wipe0, e_wipe1, e_js0, e_js1, e_ty_i, e_ty_b, e_ty_n, e_ty_s, e_ty_l, e_ty_t, e_isi_ii, e_isi_ib, e_isi_in, e_isi_is, e_isi_il, e_isi_it, e_isi_bi, e_isi_bb, e_isi_bn, e_isi_bs, e_isi_bl, e_isi_bt, e_isi_li, e_isi_lb, e_isi_ln, e_isi_ls, e_isi_ll, e_isi_lt, e_isi_ti, e_isi_tb, e_isi_tn, e_isi_ts, e_isi_tl, e_isi_tt, e_isi_si, e_isi_sb, e_isi_sn, e_isi_ss, e_isi_sl, e_isi_st, e_up, e_st0, e_st1, e_st2, exists_eq_left, exists_eq_left', exists_eq_right, exists_eq_right', exists_eq', exists_eq, true_and, and_true, and_self, false_and, and_false, exists_and_left, exists_and_right, exists_const, Option.some.injEq, Option.map_some, Option.map_none, Sl.is.injEq, Sl.own.injEq, D.py.injEq, D.ex.injEq, D.rf.injEq, PyData.int.injEq, PyData.bool.injEq, PyData.str.injEq, PyData.list.injEq, PyData.tuple.injEq, List.cons.injEq, if_true, if_false, eq_self, Bool.false_eq_true, Bool.true_eq_false, Bool.not_true, Bool.not_false, Bool.not_not, List.getElem?_cons_zero, List.getElem?_cons_succ, List.set_cons_zero, List.set_cons_succ, List.length_cons, List.length_nil, List.cons_append, List.nil_append, reduceCtorEq, List.replicate_zero, List.replicate_succ, Nat.reduceAdd, Nat.reduceSub, decide_true, decide_false, intsOf_map', blsOf_map', strsOf_map', map_int_inj, map_str_inj, map_bool_inj, map_itD_inj, itD_iff, sh_int, sh_bool, sh_none, sh_itD, sh_nil, sh_ints, sh_its, eqv_int, eqv_bool, eqv_str, eqv_itD, eqv_ints, eqv_strs, eqv_its, eqv_nil, Nat.zero_le, and_assoc, optL_some, sp_set_of] at n ⊢
    exact ⟨fn, items_ok h, n⟩
def sp_items : Spec0 := fun ds N Nx => ∃ d, ds = [.py d] ∧ TFine d ∧ (match itemsD d with | some its => N (.py (.list (its.map itD))) | none => Nx .text)
def w_items : WS Unit :=
  wSeq (wDrop (wCall0 sp_check_text (wCons (wVar 0) (wNil)))) (wRet (wCall0 sp_items_in (wCons (wVar 0) (wNil))))
theorem law_items : ∀ ds θ N Nx, sp_items.up ds θ N Nx → w_items (bodyEN N Nx) (startD 1 ds) θ := by
  rintro ds θ N Nx ⟨d, rfl, fn, n⟩
  simp only [w_items, sp_check_text, sp_items_in, wVar, wOwn, wC, wOp, wT, wChain, wAndT, wOrT, wNotT, wAnd, wOr, wNot, wIf, wNil, wCons, wDisp, wCall, wCall0, wNoPart, wPart, wSl, wRevL, wBlt, wItL, wItT, wItS, wRg1, wRg2, wEnum, wZip, wLR, wLR2, wYes, wM1, wFmt, wJoined, wIsi, wNeg, wNewD, wOwnCat, wPar2, wNext, wSeq, wNever, wSet, wNew, wAug, wExtend, wAppend, wPut, wFrz, wRet, wRetOwn, wRetN, wDrop, wIfS, wgName, wgTup, wUnp, wRaise, bodyEN, wLc, wFor, wSortSet, e_add_i, e_add_s, e_add_l, e_add_t, e_kadd_i, e_kadd_s, e_kadd_l, e_kadd_t, e_sub, e_kt, e_mul_i, e_mul_l, e_kmul_i, e_kmul_l, e_div, e_kdiv, e_mod, e_kmod, e_cmp, e_eq, e_ne, e_keq, e_is_n, e_is_b, e_isn_n, e_isn_b, e_non_n, e_non_l, e_non_t, e_non_i, e_non_s, e_non_b, e_non_x, e_in_l, e_in_t, e_ni_l, e_ni_t, e_kin_l, e_kin_t, e_kin_s, e_ix_l, e_ix_t, e_ix_s, e_kix_l, e_kix_t, e_kix_s, e_sl_l, e_sl_t, e_sl_s, e_len_l, e_len_t, e_len_s, e_klen_l, e_klen_t, e_klen_s, e_kany, e_list_l, e_list_t, e_tup_l, e_tup_t, e_sum, e_max, e_max2, e_min, e_kne, e_kne2, e_all, e_str, e_kstr, e_int, e_kint, e_split, e_ksplit, e_part, e_kpart, e_join, e_kjoin, e_pys0, e_pys1, e_sa0, e_sa1, e_wipe0, e_wipe1, e_js0, e_js1, e_ty_i, e_ty_b, e_ty_n, e_ty_s, e_ty_l, e_ty_t, e_isi_ii, e_isi_ib, e_isi_in, e_isi_is, e_isi_il, e_isi_it, e_isi_bi, e_isi_bb, e_isi_bn, e_isi_bs, e_isi_bl, e_isi_bt, e_isi_li, e_isi_lb, e_isi_ln, e_isi_ls, e_isi_ll, e_isi_lt, e_isi_ti, e_isi_tb, e_isi_tn, e_isi_ts, e_isi_tl, e_isi_tt, e_isi_si, e_isi_sb, e_isi_sn, e_isi_ss, e_isi_sl, e_isi_st, e_up, e_st0, e_st1, e_st2, exists_eq_left, exists_eq_left', exists_eq_right, exists_eq_right', exists_eq', exists_eq, true_and, and_true, and_self, false_and, and_false, exists_and_left, exists_and_right, exists_const, Option.some.injEq, Option.map_some, Option.map_none, Sl.is.injEq, Sl.own.injEq, D.py.injEq, D.ex.injEq, D.rf.injEq, PyData.int.injEq, PyData.bool.injEq, PyData.str.injEq, PyData.list.injEq, PyData.tuple.injEq, List.cons.injEq, if_true, if_false, eq_self, Bool.false_eq_true, Bool.true_eq_false, Bool.not_true, Bool.not_false, Bool.not_not, List.getElem?_cons_zero, List.getElem?_cons_succ, List.set_cons_zero, List.set_cons_succ, List.length_cons, List.length_nil, List.cons_append, List.nil_append, reduceCtorEq, List.replicate_zero, List.replicate_succ, Nat.reduceAdd, Nat.reduceSub, decide_true, decide_false, intsOf_map', blsOf_map', strsOf_map', map_int_inj, map_str_inj, map_bool_inj, map_itD_inj, itD_iff, sh_int, sh_bool, sh_none, sh_itD, sh_nil, sh_ints, sh_its, eqv_int, eqv_bool, eqv_str, eqv_itD, eqv_ints, eqv_strs, eqv_its, eqv_nil, Nat.zero_le, and_assoc]
  refine ⟨fn, ?_⟩
  cases h : itemsD d with
  | none => simp only [h, wVar, wOwn, wC, wOp, wT, wChain, wAndT, wOrT, wNotT, wAnd, wOr, wNot, wIf, wNil, wCons, wDisp, wCall, wCall0, wNoPart, wPart, wSl, wRevL, wBlt, wItL, wItT, wItS, wRg1, wRg2, wEnum, wZip, wLR, wLR2, wYes, wM1, wFmt, wJoined, wIsi, wNeg, wNewD, wOwnCat, wPar2, wNext, wSeq, wNever, wSet, wNew, wAug, wExtend, wAppend, wPut, wFrz, wRet, wRetOwn, wRetN, wDrop, wIfS, wgName, wgTup, wUnp, wRaise, bodyEN, wLc, wFor, wSortSet, e_add_i, e_add_s, e_add_l, e_add_t, e_kadd_i, e_kadd_s, e_kadd_l, e_kadd_t, e_sub, e_kt, e_mul_i, e_mul_l, e_kmul_i, e_kmul_l, e_div, e_kdiv, e_mod, e_kmod, e_cmp, e_eq, e_ne, e_keq, e_is_n, e_is_b, e_isn_n, e_isn_b, e_non_n, e_non_l, e_non_t, e_non_i, e_non_s, e_non_b, e_non_x, e_in_l, e_in_t, e_ni_l, e_ni_t, e_kin_l, e_kin_t, e_kin_s, e_ix_l, e_ix_t, e_ix_s, e_kix_l, e_kix_t, e_kix_s, e_sl_l, e_sl_t, e_sl_s, e_len_l, e_len_t, e_len_s, e_klen_l, e_klen_t, e_klen_s, e_kany, e_list_l, e_list_t, e_tup_l, e_tup_t, e_sum, e_max, e_max2, e_min, e_kne, e_kne2, e_all, e_str, e_kstr, e_int, e_kint, e_split, e_ksplit, e_part, e_kpart, e_join, e_kjoin, e_pys0, e_pys1, e_sa0, e_sa1, e_wipe0, e_wipe1, e_js0, e_js1, e_ty_i, e_ty_b, e_ty_n, e_ty_s, e_ty_l, e_ty_t, e_isi_ii, e_isi_ib, e_isi_in, e_isi_is, e_isi_il, e_isi_it, e_isi_bi, e_isi_bb, e_isi_bn, e_isi_bs, e_isi_bl, e_isi_bt, e_isi_li, e_isi_lb, e_isi_ln, e_isi_ls, e_isi_ll, e_isi_lt, e_isi_ti, e_isi_tb, e_isi_tn, e_isi_ts, e_isi_tl, e_isi_tt, e_isi_si, e_isi_sb, e_isi_sn, e_isi_ss, e_isi_sl, e_isi_st, e_up, e_st0, e_st1, e_st2, exists_eq_left, exists_eq_left', exists_eq_right, exists_eq_right', exists_eq', exists_eq, true_and, and_true, and_self, false_and, and_false, exists_and_left, exists_and_right, exists_const, Option.some.injEq, Option.map_some, Option.map_none, Sl.is.injEq, Sl.own.injEq, D.py.injEq, D.ex.injEq, D.rf.injEq, PyData.int.injEq, PyData.bool.injEq, PyData.str.injEq, PyData.list.injEq, PyData.tuple.injEq, List.cons.injEq, if_true, if_false, eq_self, Bool.false_eq_true, Bool.true_eq_false, Bool.not_true, Bool.not_false, Bool.not_not, List.getElem?_cons_zero, List.getElem?_cons_succ, List.set_cons_zero, List.set_cons_succ, List.length_cons, List.length_nil, List.cons_append, List.nil_append, reduceCtorEq, List.replicate_zero, List.replicate_succ, Nat.reduceAdd, Nat.reduceSub, decide_true, decide_false, intsOf_map', blsOf_map', strsOf_map', map_int_inj, map_str_inj, map_bool_inj, map_itD_inj, itD_iff, sh_int, sh_bool, sh_none, sh_itD, sh_nil, sh_ints, sh_its, eqv_int, eqv_bool, eqv_str, eqv_itD, eqv_ints, eqv_strs, eqv_its, eqv_nil, Nat.zero_le, and_assoc] at n ⊢; exact n
  | some its =>
    simp only [h, wVar, wOwn, wC, wOp, wT, wChain, wAndT, wOrT, wNotT, wAnd, wOr, wNot, wIf, wNil, wCons, wDisp, wCall, wCall0, wNoPart, wPart, wSl, wRevL, wBlt, wItL, wItT, wItS, wRg1, wRg2, wEnum, wZip, wLR, wLR2, wYes, wM1, wFmt, wJoined, wIsi, wNeg, wNewD, wOwnCat, wPar2, wNext, wSeq, wNever, wSet, wNew, wAug, wExtend, wAppend, wPut, wFrz, wRet, wRetOwn, wRetN, wDrop, wIfS, wgName, wgTup, wUnp, wRaise, bodyEN, wLc, wFor, wSortSet, e_add_i, e_add_s, e_add_l, e_add_t, e_kadd_i, e_kadd_s, e_kadd_l, e_kadd_t, e_sub, e_kt, e_mul_i, e_mul_l, e_kmul_i, e_kmul_l, e_div, e_kdiv, e_mod, e_kmod, e_cmp, e_eq, e_ne, e_keq, e_is_n, e_is_b, e_isn_n, e_isn_b, e_non_n, e_non_l, e_non_t, e_non_i, e_non_s, e_non_b, e_non_x, e_in_l, e_in_t, e_ni_l, e_ni_t, e_kin_l, e_kin_t, e_kin_s, e_ix_l, e_ix_t, e_ix_s, e_kix_l, e_kix_t, e_kix_s, e_sl_l, e_sl_t, e_sl_s, e_len_l, e_len_t, e_len_s, e_klen_l, e_klen_t, e_klen_s, e_kany, e_list_l, e_list_t, e_tup_l, e_tup_t, e_sum, e_max, e_max2, e_min, e_kne, e_kne2, e_all, e_str, e_kstr, e_int, e_kint, e_split, e_ksplit, e_part, e_kpart, e_join, e_kjoin, e_pys0, e_pys1, e_sa0, e_sa1, e_wipe0, e_wipe1, e_js0, e_js1, e_ty_i, e_ty_b, e_ty_n, e_ty_s, e_ty_l, e_ty_t, e_isi_ii, e_isi_ib, e_isi_in, e_isi_is, e_isi_il, e_isi_it, e_isi_bi, e_isi_bb, e_isi_bn, e_isi_bs, e_isi_bl, e_isi_bt, e_isi_li, e_isi_lb, e_isi_ln, e_isi_ls, e_isi_ll, e_isi_lt, e_isi_ti, e_isi_tb, e_isi_tn, e_isi_ts, e_isi_tl, e_isi_tt, e_isi_si, e_isi_sb, e_isi_sn, e_isi_ss, e_isi_sl, e_isi_st, e_up, e_st0, e_st1, e_st2, exists_eq_left, exists_eq_left', exists_eq_right, exists_eq_right', exists_eq', exists_eq, true_and, and_true, and_self, false_and, and_false, exists_and_left, exists_and_right, exists_const, Option.some.injEq, Option.map_some, Option.map_none, Sl.is.injEq, Sl.own.injEq, D.py.injEq, D.ex.injEq, D.rf.injEq, PyData.int.injEq, PyData.bool.injEq, PyData.str.injEq, PyData.list.injEq, PyData.tuple.injEq, List.cons.injEq, if_true, if_false, eq_self, Bool.false_eq_true, Bool.true_eq_false, Bool.not_true, Bool.not_false, Bool.not_not, List.getElem?_cons_zero, List.getElem?_cons_succ, List.set_cons_zero, List.set_cons_succ, List.length_cons, List.length_nil, List.cons_append, List.nil_append, reduceCtorEq, List.replicate_zero, List.replicate_succ, Nat.reduceAdd, Nat.reduceSub, decide_true, decide_false, intsOf_map', blsOf_map', strsOf_map', map_int_inj, map_str_inj, map_bool_inj, map_itD_inj, itD_iff, sh_int, sh_bool, sh_none, sh_itD, sh_nil, sh_ints, sh_its, eqv_int, eqv_bool, eqv_str, eqv_itD, eqv_ints, eqv_strs, eqv_its, eqv_nil, Nat.zero_le, and_assoc, optL_some] at n ⊢
    exact ⟨fn, n⟩
def sp_mean_same : Spec0 := fun ds N Nx => ∃ d e, ds = [.py d, .py e] ∧ TFine d ∧ TFine e ∧ (match itemsD d with
  | some its => (match itemsD e with | some jts => its.length ≤ 400 ∧ jts.length ≤ 400 ∧ N (.py (.bool (decide (setOf its = setOf jts)))) | none => Nx .text)
  | none => Nx .text)
def w_mean_same : WS Unit :=
  wSeq (wDrop (wCall0 sp_check_text (wCons (wVar 0) (wNil)))) (wSeq (wDrop (wCall0 sp_check_text (wCons (wVar 1) (wNil)))) (wRet (wOp fEq kEq (wCall0 sp_set_of (wCons (wCall0 sp_items_in (wCons (wVar 0) (wNil))) (wNil))) (wCall0 sp_set_of (wCons (wCall0 sp_items_in (wCons (wVar 1) (wNil))) (wNil))))))
theorem law_mean_same : ∀ ds θ N Nx, sp_mean_same.up ds θ N Nx → w_mean_same (bodyEN N Nx) (startD 2 ds) θ := by
  rintro ds θ N Nx ⟨d, e, rfl, fn, fe, n⟩
  simp only [w_mean_same, sp_check_text, sp_items_in, wVar, wOwn, wC, wOp, wT, wChain, wAndT, wOrT, wNotT, wAnd, wOr, wNot, wIf, wNil, wCons, wDisp, wCall, wCall0, wNoPart, wPart, wSl, wRevL, wBlt, wItL, wItT, wItS, wRg1, wRg2, wEnum, wZip, wLR, wLR2, wYes, wM1, wFmt, wJoined, wIsi, wNeg, wNewD, wOwnCat, wPar2, wNext, wSeq, wNever, wSet, wNew, wAug, wExtend, wAppend, wPut, wFrz, wRet, wRetOwn, wRetN, wDrop, wIfS, wgName, wgTup, wUnp, wRaise, bodyEN, wLc, wFor, wSortSet, e_add_i, e_add_s, e_add_l, e_add_t, e_kadd_i, e_kadd_s, e_kadd_l, e_kadd_t, e_sub, e_kt, e_mul_i, e_mul_l, e_kmul_i, e_kmul_l, e_div, e_kdiv, e_mod, e_kmod, e_cmp, e_eq, e_ne, e_keq, e_is_n, e_is_b, e_isn_n, e_isn_b, e_non_n, e_non_l, e_non_t, e_non_i, e_non_s, e_non_b, e_non_x, e_in_l, e_in_t, e_ni_l, e_ni_t, e_kin_l, e_kin_t, e_kin_s, e_ix_l, e_ix_t, e_ix_s, e_kix_l, e_kix_t, e_kix_s, e_sl_l, e_sl_t, e_sl_s, e_len_l, e_len_t, e_len_s, e_klen_l, e_klen_t, e_klen_s, e_kany, e_list_l, e_list_t, e_tup_l, e_tup_t, e_sum, e_max, e_max2, e_min, e_kne, e_kne2, e_all, e_str, e_kstr, e_int, e_kint, e_split, e_ksplit, e_part, e_kpart, e_join, e_kjoin, e_pys0, e_pys1, e_sa0, e_sa1, e_wipe0, e_wipe1, e_js0, e_js1, e_ty_i, e_ty_b, e_ty_n, e_ty_s, e_ty_l, e_ty_t, e_isi_ii, e_isi_ib, e_isi_in, e_isi_is, e_isi_il, e_isi_it, e_isi_bi, e_isi_bb, e_isi_bn, e_isi_bs, e_isi_bl, e_isi_bt, e_isi_li, e_isi_lb, e_isi_ln, e_isi_ls, e_isi_ll, e_isi_lt, e_isi_ti, e_isi_tb, e_isi_tn, e_isi_ts, e_isi_tl, e_isi_tt, e_isi_si, e_isi_sb, e_isi_sn, e_isi_ss, e_isi_sl, e_isi_st, e_up, e_st0, e_st1, e_st2, exists_eq_left, exists_eq_left', exists_eq_right, exists_eq_right', exists_eq', exists_eq, true_and, and_true, and_self, false_and, and_false, exists_and_left, exists_and_right, exists_const, Option.some.injEq, Option.map_some, Option.map_none, Sl.is.injEq, Sl.own.injEq, D.py.injEq, D.ex.injEq, D.rf.injEq, PyData.int.injEq, PyData.bool.injEq, PyData.str.injEq, PyData.list.injEq, PyData.tuple.injEq, List.cons.injEq, if_true, if_false, eq_self, Bool.false_eq_true, Bool.true_eq_false, Bool.not_true, Bool.not_false, Bool.not_not, List.getElem?_cons_zero, List.getElem?_cons_succ, List.set_cons_zero, List.set_cons_succ, List.length_cons, List.length_nil, List.cons_append, List.nil_append, reduceCtorEq, List.replicate_zero, List.replicate_succ, Nat.reduceAdd, Nat.reduceSub, decide_true, decide_false, intsOf_map', blsOf_map', strsOf_map', map_int_inj, map_str_inj, map_bool_inj, map_itD_inj, itD_iff, sh_int, sh_bool, sh_none, sh_itD, sh_nil, sh_ints, sh_its, eqv_int, eqv_bool, eqv_str, eqv_itD, eqv_ints, eqv_strs, eqv_its, eqv_nil, Nat.zero_le, and_assoc]
  refine ⟨fn, ?_⟩
  cases h : itemsD d with
  | none => simp only [h, wVar, wOwn, wC, wOp, wT, wChain, wAndT, wOrT, wNotT, wAnd, wOr, wNot, wIf, wNil, wCons, wDisp, wCall, wCall0, wNoPart, wPart, wSl, wRevL, wBlt, wItL, wItT, wItS, wRg1, wRg2, wEnum, wZip, wLR, wLR2, wYes, wM1, wFmt, wJoined, wIsi, wNeg, wNewD, wOwnCat, wPar2, wNext, wSeq, wNever, wSet, wNew, wAug, wExtend, wAppend, wPut, wFrz, wRet, wRetOwn, wRetN, wDrop, wIfS, wgName, wgTup, wUnp, wRaise, bodyEN, wLc, wFor, wSortSet, e_add_i, e_add_s, e_add_l, e_add_t, e_kadd_i, e_kadd_s, e_kadd_l, e_kadd_t, e_sub, e_kt, e_mul_i, e_mul_l, e_kmul_i, e_kmul_l, e_div, e_kdiv, e_mod, e_kmod, e_cmp, e_eq, e_ne, e_keq, e_is_n, e_is_b, e_isn_n, e_isn_b, e_non_n, e_non_l, e_non_t, e_non_i, e_non_s, e_non_b, e_non_x, e_in_l, e_in_t, e_ni_l, e_ni_t, e_kin_l, e_kin_t, e_kin_s, e_ix_l, e_ix_t, e_ix_s, e_kix_l, e_kix_t, e_kix_s, e_sl_l, e_sl_t, e_sl_s, e_len_l, e_len_t, e_len_s, e_klen_l, e_klen_t, e_klen_s, e_kany, e_list_l, e_list_t, e_tup_l, e_tup_t, e_sum, e_max, e_max2, e_min, e_kne, e_kne2, e_all, e_str, e_kstr, e_int, e_kint, e_split, e_ksplit, e_part, e_kpart, e_join, e_kjoin, e_pys0, e_pys1, e_sa0, e_sa1, e_wipe0, e_wipe1, e_js0, e_js1, e_ty_i, e_ty_b, e_ty_n, e_ty_s, e_ty_l, e_ty_t, e_isi_ii, e_isi_ib, e_isi_in, e_isi_is, e_isi_il, e_isi_it, e_isi_bi, e_isi_bb, e_isi_bn, e_isi_bs, e_isi_bl, e_isi_bt, e_isi_li, e_isi_lb, e_isi_ln, e_isi_ls, e_isi_ll, e_isi_lt, e_isi_ti, e_isi_tb, e_isi_tn, e_isi_ts, e_isi_tl, e_isi_tt, e_isi_si, e_isi_sb, e_isi_sn, e_isi_ss, e_isi_sl, e_isi_st, e_up, e_st0, e_st1, e_st2, exists_eq_left, exists_eq_left', exists_eq_right, exists_eq_right', exists_eq', exists_eq, true_and, and_true, and_self, false_and, and_false, exists_and_left, exists_and_right, exists_const, Option.some.injEq, Option.map_some, Option.map_none, Sl.is.injEq, Sl.own.injEq, D.py.injEq, D.ex.injEq, D.rf.injEq, PyData.int.injEq, PyData.bool.injEq, PyData.str.injEq, PyData.list.injEq, PyData.tuple.injEq, List.cons.injEq, if_true, if_false, eq_self, Bool.false_eq_true, Bool.true_eq_false, Bool.not_true, Bool.not_false, Bool.not_not, List.getElem?_cons_zero, List.getElem?_cons_succ, List.set_cons_zero, List.set_cons_succ, List.length_cons, List.length_nil, List.cons_append, List.nil_append, reduceCtorEq, List.replicate_zero, List.replicate_succ, Nat.reduceAdd, Nat.reduceSub, decide_true, decide_false, intsOf_map', blsOf_map', strsOf_map', map_int_inj, map_str_inj, map_bool_inj, map_itD_inj, itD_iff, sh_int, sh_bool, sh_none, sh_itD, sh_nil, sh_ints, sh_its, eqv_int, eqv_bool, eqv_str, eqv_itD, eqv_ints, eqv_strs, eqv_its, eqv_nil, Nat.zero_le, and_assoc] at n ⊢; exact n
  | some its =>
    simp only [h] at n ⊢
    refine ⟨fe, ?_⟩
    cases h2 : itemsD e with
    | none => simp only [h2, wVar, wOwn, wC, wOp, wT, wChain, wAndT, wOrT, wNotT, wAnd, wOr, wNot, wIf, wNil, wCons, wDisp, wCall, wCall0, wNoPart, wPart, wSl, wRevL, wBlt, wItL, wItT, wItS, wRg1, wRg2, wEnum, wZip, wLR, wLR2, wYes, wM1, wFmt, wJoined, wIsi, wNeg, wNewD, wOwnCat, wPar2, wNext, wSeq, wNever, wSet, wNew, wAug, wExtend, wAppend, wPut, wFrz, wRet, wRetOwn, wRetN, wDrop, wIfS, wgName, wgTup, wUnp, wRaise, bodyEN, wLc, wFor, wSortSet, e_add_i, e_add_s, e_add_l, e_add_t, e_kadd_i, e_kadd_s, e_kadd_l, e_kadd_t, e_sub, e_kt, e_mul_i, e_mul_l, e_kmul_i, e_kmul_l, e_div, e_kdiv, e_mod, e_kmod, e_cmp, e_eq, e_ne, e_keq, e_is_n, e_is_b, e_isn_n, e_isn_b, e_non_n, e_non_l, e_non_t, e_non_i, e_non_s, e_non_b, e_non_x, e_in_l, e_in_t, e_ni_l, e_ni_t, e_kin_l, e_kin_t, e_kin_s, e_ix_l, e_ix_t, e_ix_s, e_kix_l, e_kix_t, e_kix_s, e_sl_l, e_sl_t, e_sl_s, e_len_l, e_len_t, e_len_s, e_klen_l, e_klen_t, e_klen_s, e_kany, e_list_l, e_list_t, e_tup_l, e_tup_t, e_sum, e_max, e_max2, e_min, e_kne, e_kne2, e_all, e_str, e_kstr, e_int, e_kint, e_split, e_ksplit, e_part, e_kpart, e_join, e_kjoin, e_pys0, e_pys1, e_sa0, e_sa1, e_wipe0, e_wipe1, e_js0, e_js1, e_ty_i, e_ty_b, e_ty_n, e_ty_s, e_ty_l, e_ty_t, e_isi_ii, e_isi_ib, e_isi_in, e_isi_is, e_isi_il, e_isi_it, e_isi_bi, e_isi_bb, e_isi_bn, e_isi_bs, e_isi_bl, e_isi_bt, e_isi_li, e_isi_lb, e_isi_ln, e_isi_ls, e_isi_ll, e_isi_lt, e_isi_ti, e_isi_tb, e_isi_tn, e_isi_ts, e_isi_tl, e_isi_tt, e_isi_si, e_isi_sb, e_isi_sn, e_isi_ss, e_isi_sl, e_isi_st, e_up, e_st0, e_st1, e_st2, exists_eq_left, exists_eq_left', exists_eq_right, exists_eq_right', exists_eq', exists_eq, true_and, and_true, and_self, false_and, and_false, exists_and_left, exists_and_right, exists_const, Option.some.injEq, Option.map_some, Option.map_none, Sl.is.injEq, Sl.own.injEq, D.py.injEq, D.ex.injEq, D.rf.injEq, PyData.int.injEq, PyData.bool.injEq, PyData.str.injEq, PyData.list.injEq, PyData.tuple.injEq, List.cons.injEq, if_true, if_false, eq_self, Bool.false_eq_true, Bool.true_eq_false, Bool.not_true, Bool.not_false, Bool.not_not, List.getElem?_cons_zero, List.getElem?_cons_succ, List.set_cons_zero, List.set_cons_succ, List.length_cons, List.length_nil, List.cons_append, List.nil_append, reduceCtorEq, List.replicate_zero, List.replicate_succ, Nat.reduceAdd, Nat.reduceSub, decide_true, decide_false, intsOf_map', blsOf_map', strsOf_map', map_int_inj, map_str_inj, map_bool_inj, map_itD_inj, itD_iff, sh_int, sh_bool, sh_none, sh_itD, sh_nil, sh_ints, sh_its, eqv_int, eqv_bool, eqv_str, eqv_itD, eqv_ints, eqv_strs, eqv_its, eqv_nil, Nat.zero_le, and_assoc] at n ⊢; exact n
    | some jts =>
      simp only [h2, wVar, wOwn, wC, wOp, wT, wChain, wAndT, wOrT, wNotT, wAnd, wOr, wNot, wIf, wNil, wCons, wDisp, wCall, wCall0, wNoPart, wPart, wSl, wRevL, wBlt, wItL, wItT, wItS, wRg1, wRg2, wEnum, wZip, wLR, wLR2, wYes, wM1, wFmt, wJoined, wIsi, wNeg, wNewD, wOwnCat, wPar2, wNext, wSeq, wNever, wSet, wNew, wAug, wExtend, wAppend, wPut, wFrz, wRet, wRetOwn, wRetN, wDrop, wIfS, wgName, wgTup, wUnp, wRaise, bodyEN, wLc, wFor, wSortSet, e_add_i, e_add_s, e_add_l, e_add_t, e_kadd_i, e_kadd_s, e_kadd_l, e_kadd_t, e_sub, e_kt, e_mul_i, e_mul_l, e_kmul_i, e_kmul_l, e_div, e_kdiv, e_mod, e_kmod, e_cmp, e_eq, e_ne, e_keq, e_is_n, e_is_b, e_isn_n, e_isn_b, e_non_n, e_non_l, e_non_t, e_non_i, e_non_s, e_non_b, e_non_x, e_in_l, e_in_t, e_ni_l, e_ni_t, e_kin_l, e_kin_t, e_kin_s, e_ix_l, e_ix_t, e_ix_s, e_kix_l, e_kix_t, e_kix_s, e_sl_l, e_sl_t, e_sl_s, e_len_l, e_len_t, e_len_s, e_klen_l, e_klen_t, e_klen_s, e_kany, e_list_l, e_list_t, e_tup_l, e_tup_t, e_sum, e_max, e_max2, e_min, e_kne, e_kne2, e_all, e_str, e_kstr, e_int, e_kint, e_split, e_ksplit, e_part, e_kpart, e_join, e_kjoin, e_pys0, e_pys1, e_sa0, e_sa1, e_wipe0, e_wipe1, e_js0, e_js1, e_ty_i, e_ty_b, e_ty_n, e_ty_s, e_ty_l, e_ty_t, e_isi_ii, e_isi_ib, e_isi_in, e_isi_is, e_isi_il, e_isi_it, e_isi_bi, e_isi_bb, e_isi_bn, e_isi_bs, e_isi_bl, e_isi_bt, e_isi_li, e_isi_lb, e_isi_ln, e_isi_ls, e_isi_ll, e_isi_lt, e_isi_ti, e_isi_tb, e_isi_tn, e_isi_ts, e_isi_tl, e_isi_tt, e_isi_si, e_isi_sb, e_isi_sn, e_isi_ss, e_isi_sl, e_isi_st, e_up, e_st0, e_st1, e_st2, exists_eq_left, exists_eq_left', exists_eq_right, exists_eq_right', exists_eq', exists_eq, true_and, and_true, and_self, false_and, and_false, exists_and_left, exists_and_right, exists_const, Option.some.injEq, Option.map_some, Option.map_none, Sl.is.injEq, Sl.own.injEq, D.py.injEq, D.ex.injEq, D.rf.injEq, PyData.int.injEq, PyData.bool.injEq, PyData.str.injEq, PyData.list.injEq, PyData.tuple.injEq, List.cons.injEq, if_true, if_false, eq_self, Bool.false_eq_true, Bool.true_eq_false, Bool.not_true, Bool.not_false, Bool.not_not, List.getElem?_cons_zero, List.getElem?_cons_succ, List.set_cons_zero, List.set_cons_succ, List.length_cons, List.length_nil, List.cons_append, List.nil_append, reduceCtorEq, List.replicate_zero, List.replicate_succ, Nat.reduceAdd, Nat.reduceSub, decide_true, decide_false, intsOf_map', blsOf_map', strsOf_map', map_int_inj, map_str_inj, map_bool_inj, map_itD_inj, itD_iff, sh_int, sh_bool, sh_none, sh_itD, sh_nil, sh_ints, sh_its, eqv_int, eqv_bool, eqv_str, eqv_itD, eqv_ints, eqv_strs, eqv_its, eqv_nil, Nat.zero_le, and_assoc, optL_some, sp_set_of] at n ⊢
      exact ⟨fn, items_ok h, n.1, fe, items_ok h2, n.2⟩
/-! ### sets -/
def setD : PyData → Option (List Int)
  | .list ds => match intsOf ds with
    | some ns => if setI ns = true then some ns else none
    | none => none
  | _ => none
theorem isSetD_eq (d : PyData) : isSetD d = (setD d).isSome := by
  cases d with
  | list ds =>
    simp only [isSetD, setD]
    cases intsOf ds with
    | none => rfl
    | some ns =>
      simp only
      cases setI ns <;> rfl
  | _ => rfl
theorem setD_some {d : PyData} {ns : List Int} (h : setD d = some ns) : d = .list (ns.map .int) ∧ setI ns = true := by
  cases d with
  | list ds =>
    simp only [setD] at h
    cases hi : intsOf ds with
    | none => rw [hi] at h; cases h
    | some ms =>
      rw [hi] at h
      simp only at h
      split at h
      · rename_i q
        cases h
        exact ⟨by rw [intsOf_eq hi], q⟩
      · cases h
  | _ => cases h
theorem asc_pair : ∀ {ns : List Int}, ascI ns = true → ns.Pairwise (· < ·)
  | [], _ => .nil
  | [_], _ => List.pairwise_singleton _ _
  | a :: b :: r, h => by
    simp only [ascI, Bool.and_eq_true, decide_eq_true_eq] at h
    have ih := asc_pair h.2
    refine List.pairwise_cons.mpr ⟨fun x hx => ?_, ih⟩
    rcases List.mem_cons.mp hx with rfl | hx
    · exact h.1
    · have := (List.pairwise_cons.mp ih).1 x hx
      omega
theorem subs_asc {ns : List Int} (h : ns ∈ subs ten) : ns.Pairwise (· < ·) := List.Pairwise.sublist (subs_sub h) ten_asc
theorem subs_ten {ns : List Int} (h : ns ∈ subs ten) {k : Int} (hk : k ∈ ns) : k ∈ ten := (subs_sub h).subset hk
theorem setI_iff {ns : List Int} : setI ns = true ↔ ns ∈ subs ten ∧ ns ≠ [] := by
  constructor
  · intro h
    simp only [setI, Bool.and_eq_true, Bool.not_eq_true'] at h
    refine ⟨?_, fun e => by rw [e] at h; exact absurd h.1.1 (by decide)⟩
    have e : ns = ten.filter fun k => decide (k ∈ ns) := asc_uniq (asc_pair h.2) (List.Pairwise.filter _ ten_asc) fun k => by
      rw [List.mem_filter]
      refine ⟨fun hk => ⟨ten_iff.mpr ?_, decide_eq_true hk⟩, fun hk => of_decide_eq_true hk.2⟩
      have := List.all_eq_true.mp h.1.2 k hk
      simpa using this
    rw [e]
    exact filter_subs _ _
  · rintro ⟨h, ne⟩
    have : ∀ ns ∈ subs ten, ns ≠ [] → setI ns = true := by decide +kernel
    exact this ns h ne
theorem setD_ints {ns : List Int} (h : ns ∈ subs ten) (ne : ns ≠ []) : setD (.list (ns.map .int)) = some ns := by
  simp only [setD, intsOf_map', setI_iff.mpr ⟨h, ne⟩, if_true]
theorem subs_len {ns : List Int} (h : ns ∈ subs ten) : ns.length ≤ 10 := (subs_sub h).length_le
theorem fine_ints {ns : List Int} (h : ns.length ≤ 1000000) : Fine (.list (ns.map .int)) := ⟨sh_ints ns, by show (ns.map PyData.int).length ≤ _; rw [List.length_map]; exact h⟩
theorem fine_subs {ns : List Int} (h : ns ∈ subs ten) : Fine (.list (ns.map .int)) := fine_ints (by have := subs_len h; omega)
/-! ### runs -/
def stepRun (acc : List Itm) (one : Int) : List Itm := match acc.getLast? with
  | some q => if q.2.1 = one - 1 then acc.dropLast ++ [(q.1, one, 1)] else acc ++ [(one, one, 1)]
  | none => acc ++ [(one, one, 1)]
def runsOf (ns : List Int) : List Itm := ns.foldl stepRun []
theorem stepRun_len (acc : List Itm) (one : Int) : (stepRun acc one).length ≤ acc.length + 1 := by
  unfold stepRun
  split
  · split
    · simp
    · simp
  · simp
theorem ixN_last {n : Nat} : ixN (n + 1) (-1) = some n := by
  unfold ixN
  rw [if_neg (by decide), if_pos (by omega)]
  congr 1
  omega
theorem atI_last {α : Type} (xs : List α) (x : α) : atI (xs ++ [x]) (-1) = some x := by
  unfold atI
  rw [List.length_append, List.length_singleton, ixN_last]
  simp
theorem set_last {α : Type} (xs : List α) (x y : α) : (xs ++ [x]).set xs.length y = xs ++ [y] := by simp
def sp_runs_of : Spec0 := fun ds N _ => ∃ ns : List Int, ds = [.py (.list (ns.map .int))] ∧ ns.length ≤ 1000 ∧ N (.py (.list ((runsOf ns).map itD)))
def w_runs_of : WS Unit :=
  wSeq (wNew 1) (wSeq (wFor (wItL (wVar 0)) (wgName 2) (wIfS (wAndT (wT (wOp fNe kEq (wOwn 1) (wDisp .list (wNil)))) (wT (wOp fEq kEq (wOp fIx kIx (wOp fIx kIx (wOwn 1) (wNeg (wC (.int 1)))) (wC (.int 1))) (wOp fSub kTrue (wVar 2) (wC (.int 1)))))) (wPut 1 (wDisp .tuple (wCons (wOp fIx kIx (wOp fIx kIx (wOwn 1) (wNeg (wC (.int 1)))) (wC (.int 0))) (wCons (wVar 2) (wCons (wC (.int 1)) (wNil))))) (wNeg (wC (.int 1)))) (wAppend 1 (wDisp .tuple (wCons (wVar 2) (wCons (wVar 2) (wCons (wC (.int 1)) (wNil)))))))) (wFrz 1 (wRet (wVar 1))))
theorem law_runs_of : ∀ ds θ N Nx, sp_runs_of.up ds θ N Nx → w_runs_of (bodyEN N Nx) (startD 3 ds) θ := by
  rintro ds θ N Nx ⟨ns, rfl, hl, n⟩
  simp only [w_runs_of, wVar, wOwn, wC, wOp, wT, wChain, wAndT, wOrT, wNotT, wAnd, wOr, wNot, wIf, wNil, wCons, wDisp, wCall, wCall0, wNoPart, wPart, wSl, wRevL, wBlt, wItL, wItT, wItS, wRg1, wRg2, wEnum, wZip, wLR, wLR2, wYes, wM1, wFmt, wJoined, wIsi, wNeg, wNewD, wOwnCat, wPar2, wNext, wSeq, wNever, wSet, wNew, wAug, wExtend, wAppend, wPut, wFrz, wRet, wRetOwn, wRetN, wDrop, wIfS, wgName, wgTup, wUnp, wRaise, bodyEN, wLc, wFor, wSortSet, e_add_i, e_add_s, e_add_l, e_add_t, e_kadd_i, e_kadd_s, e_kadd_l, e_kadd_t, e_sub, e_kt, e_mul_i, e_mul_l, e_kmul_i, e_kmul_l, e_div, e_kdiv, e_mod, e_kmod, e_cmp, e_eq, e_ne, e_keq, e_is_n, e_is_b, e_isn_n, e_isn_b, e_non_n, e_non_l, e_non_t, e_non_i, e_non_s, e_non_b, e_non_x, e_in_l, e_in_t, e_ni_l, e_ni_t, e_kin_l, e_kin_t, e_kin_s, e_ix_l, e_ix_t, e_ix_s, e_kix_l, e_kix_t, e_kix_s, e_sl_l, e_sl_t, e_sl_s, e_len_l, e_len_t, e_len_s, e_klen_l, e_klen_t, e_klen_s, e_kany, e_list_l, e_list_t, e_tup_l, e_tup_t, e_sum, e_max, e_max2, e_min, e_kne, e_kne2, e_all, e_str, e_kstr, e_int, e_kint, e_split, e_ksplit, e_part, e_kpart, e_join, e_kjoin, e_pys0, e_pys1, e_sa0, e_sa1, e_wipe0, e_wipe1, e_js0, e_js1, e_ty_i, e_ty_b, e_ty_n, e_ty_s, e_ty_l, e_ty_t, e_isi_ii, e_isi_ib, e_isi_in, e_isi_is, e_isi_il, e_isi_it, e_isi_bi, e_isi_bb, e_isi_bn, e_isi_bs, e_isi_bl, e_isi_bt, e_isi_li, e_isi_lb, e_isi_ln, e_isi_ls, e_isi_ll, e_isi_lt, e_isi_ti, e_isi_tb, e_isi_tn, e_isi_ts, e_isi_tl, e_isi_tt, e_isi_si, e_isi_sb, e_isi_sn, e_isi_ss, e_isi_sl, e_isi_st, e_up, e_st0, e_st1, e_st2, exists_eq_left, exists_eq_left', exists_eq_right, exists_eq_right', exists_eq', exists_eq, true_and, and_true, and_self, false_and, and_false, exists_and_left, exists_and_right, exists_const, Option.some.injEq, Option.map_some, Option.map_none, Sl.is.injEq, Sl.own.injEq, D.py.injEq, D.ex.injEq, D.rf.injEq, PyData.int.injEq, PyData.bool.injEq, PyData.str.injEq, PyData.list.injEq, PyData.tuple.injEq, List.cons.injEq, if_true, if_false, eq_self, Bool.false_eq_true, Bool.true_eq_false, Bool.not_true, Bool.not_false, Bool.not_not, List.getElem?_cons_zero, List.getElem?_cons_succ, List.set_cons_zero, List.set_cons_succ, List.length_cons, List.length_nil, List.cons_append, List.nil_append, reduceCtorEq, List.replicate_zero, List.replicate_succ, Nat.reduceAdd, Nat.reduceSub, decide_true, decide_false, intsOf_map', blsOf_map', strsOf_map', map_int_inj, map_str_inj, map_bool_inj, map_itD_inj, itD_iff, sh_int, sh_bool, sh_none, sh_itD, sh_nil, sh_ints, sh_its, eqv_int, eqv_bool, eqv_str, eqv_itD, eqv_ints, eqv_strs, eqv_its, eqv_nil, Nat.zero_le, and_assoc, List.map_map]
  refine forGo_inv (D.py ∘ PyData.int) (fun (xs : List Int) (ρ : DS) (_ : Unit) => ∃ (ys : List Int) (x : Sl), ns = ys ++ xs ∧ (runsOf ys).length ≤ ys.length ∧ ρ = [.is (.py (.list (ns.map .int))), .own ((runsOf ys).map itD), x]) (fun q xs ρ θ h R hR => ?_) (fun ρ θ h => ?_) ns _ _ ⟨[], .no, rfl, Nat.le_refl 0, rfl⟩
  · obtain ⟨ys, x, e, hy, rfl⟩ := h
    have el : ns.length = ys.length + (xs.length + 1) := by rw [e]; simp
    have sl : 3 ≤ sizeLine := by decide
    have er : runsOf (ys ++ [q]) = stepRun (runsOf ys) q := by simp [runsOf]
    have hy2 : (runsOf (ys ++ [q])).length ≤ (ys ++ [q]).length := by
      rw [er]
      have := stepRun_len (runsOf ys) q
      simp
      omega
    have nx := hR [.is (.py (.list (ns.map .int))), .own ((runsOf (ys ++ [q])).map itD), .is (.py (.int q))] θ ⟨ys ++ [q], _, by rw [e]; simp, hy2, rfl⟩
    rw [er] at nx
    have hsz : (runsOf ys).length < sizeLine := by have := le_line (n := ns.length) (by omega); omega
    simp only [Function.comp, wVar, wOwn, wC, wOp, wT, wChain, wAndT, wOrT, wNotT, wAnd, wOr, wNot, wIf, wNil, wCons, wDisp, wCall, wCall0, wNoPart, wPart, wSl, wRevL, wBlt, wItL, wItT, wItS, wRg1, wRg2, wEnum, wZip, wLR, wLR2, wYes, wM1, wFmt, wJoined, wIsi, wNeg, wNewD, wOwnCat, wPar2, wNext, wSeq, wNever, wSet, wNew, wAug, wExtend, wAppend, wPut, wFrz, wRet, wRetOwn, wRetN, wDrop, wIfS, wgName, wgTup, wUnp, wRaise, bodyEN, wLc, wFor, wSortSet, e_add_i, e_add_s, e_add_l, e_add_t, e_kadd_i, e_kadd_s, e_kadd_l, e_kadd_t, e_sub, e_kt, e_mul_i, e_mul_l, e_kmul_i, e_kmul_l, e_div, e_kdiv, e_mod, e_kmod, e_cmp, e_eq, e_ne, e_keq, e_is_n, e_is_b, e_isn_n, e_isn_b, e_non_n, e_non_l, e_non_t, e_non_i, e_non_s, e_non_b, e_non_x, e_in_l, e_in_t, e_ni_l, e_ni_t, e_kin_l, e_kin_t, e_kin_s, e_ix_l, e_ix_t, e_ix_s, e_kix_l, e_kix_t, e_kix_s, e_sl_l, e_sl_t, e_sl_s, e_len_l, e_len_t, e_len_s, e_klen_l, e_klen_t, e_klen_s, e_kany, e_list_l, e_list_t, e_tup_l, e_tup_t, e_sum, e_max, e_max2, e_min, e_kne, e_kne2, e_all, e_str, e_kstr, e_int, e_kint, e_split, e_ksplit, e_part, e_kpart, e_join, e_kjoin, e_pys0, e_pys1, e_sa0, e_sa1, e_wipe0, e_wipe1, e_js0, e_js1, e_ty_i, e_ty_b, e_ty_n, e_ty_s, e_ty_l, e_ty_t, e_isi_ii, e_isi_ib, e_isi_in, e_isi_is, e_isi_il, e_isi_it, e_isi_bi, e_isi_bb, e_isi_bn, e_isi_bs, e_isi_bl, e_isi_bt, e_isi_li, e_isi_lb, e_isi_ln, e_isi_ls, e_isi_ll, e_isi_lt, e_isi_ti, e_isi_tb, e_isi_tn, e_isi_ts, e_isi_tl, e_isi_tt, e_isi_si, e_isi_sb, e_isi_sn, e_isi_ss, e_isi_sl, e_isi_st, e_up, e_st0, e_st1, e_st2, exists_eq_left, exists_eq_left', exists_eq_right, exists_eq_right', exists_eq', exists_eq, true_and, and_true, and_self, false_and, and_false, exists_and_left, exists_and_right, exists_const, Option.some.injEq, Option.map_some, Option.map_none, Sl.is.injEq, Sl.own.injEq, D.py.injEq, D.ex.injEq, D.rf.injEq, PyData.int.injEq, PyData.bool.injEq, PyData.str.injEq, PyData.list.injEq, PyData.tuple.injEq, List.cons.injEq, if_true, if_false, eq_self, Bool.false_eq_true, Bool.true_eq_false, Bool.not_true, Bool.not_false, Bool.not_not, List.getElem?_cons_zero, List.getElem?_cons_succ, List.set_cons_zero, List.set_cons_succ, List.length_cons, List.length_nil, List.cons_append, List.nil_append, reduceCtorEq, List.replicate_zero, List.replicate_succ, Nat.reduceAdd, Nat.reduceSub, decide_true, decide_false, intsOf_map', blsOf_map', strsOf_map', map_int_inj, map_str_inj, map_bool_inj, map_itD_inj, itD_iff, sh_int, sh_bool, sh_none, sh_itD, sh_nil, sh_ints, sh_its, eqv_int, eqv_bool, eqv_str, eqv_itD, eqv_ints, eqv_strs, eqv_its, eqv_nil, Nat.zero_le, and_assoc]
    rcases List.eq_nil_or_concat (runsOf ys) with en | ⟨acc, p, en⟩
    · rw [en] at nx ⊢
      simp only [wVar, wOwn, wC, wOp, wT, wChain, wAndT, wOrT, wNotT, wAnd, wOr, wNot, wIf, wNil, wCons, wDisp, wCall, wCall0, wNoPart, wPart, wSl, wRevL, wBlt, wItL, wItT, wItS, wRg1, wRg2, wEnum, wZip, wLR, wLR2, wYes, wM1, wFmt, wJoined, wIsi, wNeg, wNewD, wOwnCat, wPar2, wNext, wSeq, wNever, wSet, wNew, wAug, wExtend, wAppend, wPut, wFrz, wRet, wRetOwn, wRetN, wDrop, wIfS, wgName, wgTup, wUnp, wRaise, bodyEN, wLc, wFor, wSortSet, e_add_i, e_add_s, e_add_l, e_add_t, e_kadd_i, e_kadd_s, e_kadd_l, e_kadd_t, e_sub, e_kt, e_mul_i, e_mul_l, e_kmul_i, e_kmul_l, e_div, e_kdiv, e_mod, e_kmod, e_cmp, e_eq, e_ne, e_keq, e_is_n, e_is_b, e_isn_n, e_isn_b, e_non_n, e_non_l, e_non_t, e_non_i, e_non_s, e_non_b, e_non_x, e_in_l, e_in_t, e_ni_l, e_ni_t, e_kin_l, e_kin_t, e_kin_s, e_ix_l, e_ix_t, e_ix_s, e_kix_l, e_kix_t, e_kix_s, e_sl_l, e_sl_t, e_sl_s, e_len_l, e_len_t, e_len_s, e_klen_l, e_klen_t, e_klen_s, e_kany, e_list_l, e_list_t, e_tup_l, e_tup_t, e_sum, e_max, e_max2, e_min, e_kne, e_kne2, e_all, e_str, e_kstr, e_int, e_kint, e_split, e_ksplit, e_part, e_kpart, e_join, e_kjoin, e_pys0, e_pys1, e_sa0, e_sa1, e_wipe0, e_wipe1, e_js0, e_js1, e_ty_i, e_ty_b, e_ty_n, e_ty_s, e_ty_l, e_ty_t, e_isi_ii, e_isi_ib, e_isi_in, e_isi_is, e_isi_il, e_isi_it, e_isi_bi, e_isi_bb, e_isi_bn, e_isi_bs, e_isi_bl, e_isi_bt, e_isi_li, e_isi_lb, e_isi_ln, e_isi_ls, e_isi_ll, e_isi_lt, e_isi_ti, e_isi_tb, e_isi_tn, e_isi_ts, e_isi_tl, e_isi_tt, e_isi_si, e_isi_sb, e_isi_sn, e_isi_ss, e_isi_sl, e_isi_st, e_up, e_st0, e_st1, e_st2, exists_eq_left, exists_eq_left', exists_eq_right, exists_eq_right', exists_eq', exists_eq, true_and, and_true, and_self, false_and, and_false, exists_and_left, exists_and_right, exists_const, Option.some.injEq, Option.map_some, Option.map_none, Sl.is.injEq, Sl.own.injEq, D.py.injEq, D.ex.injEq, D.rf.injEq, PyData.int.injEq, PyData.bool.injEq, PyData.str.injEq, PyData.list.injEq, PyData.tuple.injEq, List.cons.injEq, if_true, if_false, eq_self, Bool.false_eq_true, Bool.true_eq_false, Bool.not_true, Bool.not_false, Bool.not_not, List.getElem?_cons_zero, List.getElem?_cons_succ, List.set_cons_zero, List.set_cons_succ, List.length_cons, List.length_nil, List.cons_append, List.nil_append, reduceCtorEq, List.replicate_zero, List.replicate_succ, Nat.reduceAdd, Nat.reduceSub, decide_true, decide_false, intsOf_map', blsOf_map', strsOf_map', map_int_inj, map_str_inj, map_bool_inj, map_itD_inj, itD_iff, sh_int, sh_bool, sh_none, sh_itD, sh_nil, sh_ints, sh_its, eqv_int, eqv_bool, eqv_str, eqv_itD, eqv_ints, eqv_strs, eqv_its, eqv_nil, Nat.zero_le, and_assoc, List.map_nil, List.isEmpty_nil, sl]
      exact ⟨by decide, nx⟩
    · rw [List.concat_eq_append] at en
      rw [en] at nx hsz ⊢
      have ne : (acc.map itD ++ [itD p]).isEmpty = false := by simp
      simp only [wVar, wOwn, wC, wOp, wT, wChain, wAndT, wOrT, wNotT, wAnd, wOr, wNot, wIf, wNil, wCons, wDisp, wCall, wCall0, wNoPart, wPart, wSl, wRevL, wBlt, wItL, wItT, wItS, wRg1, wRg2, wEnum, wZip, wLR, wLR2, wYes, wM1, wFmt, wJoined, wIsi, wNeg, wNewD, wOwnCat, wPar2, wNext, wSeq, wNever, wSet, wNew, wAug, wExtend, wAppend, wPut, wFrz, wRet, wRetOwn, wRetN, wDrop, wIfS, wgName, wgTup, wUnp, wRaise, bodyEN, wLc, wFor, wSortSet, e_add_i, e_add_s, e_add_l, e_add_t, e_kadd_i, e_kadd_s, e_kadd_l, e_kadd_t, e_sub, e_kt, e_mul_i, e_mul_l, e_kmul_i, e_kmul_l, e_div, e_kdiv, e_mod, e_kmod, e_cmp, e_eq, e_ne, e_keq, e_is_n, e_is_b, e_isn_n, e_isn_b, e_non_n, e_non_l, e_non_t, e_non_i, e_non_s, e_non_b, e_non_x, e_in_l, e_in_t, e_ni_l, e_ni_t, e_kin_l, e_kin_t, e_kin_s, e_ix_l, e_ix_t, e_ix_s, e_kix_l, e_kix_t, e_kix_s, e_sl_l, e_sl_t, e_sl_s, e_len_l, e_len_t, e_len_s, e_klen_l, e_klen_t, e_klen_s, e_kany, e_list_l, e_list_t, e_tup_l, e_tup_t, e_sum, e_max, e_max2, e_min, e_kne, e_kne2, e_all, e_str, e_kstr, e_int, e_kint, e_split, e_ksplit, e_part, e_kpart, e_join, e_kjoin, e_pys0, e_pys1, e_sa0, e_sa1, e_wipe0, e_wipe1, e_js0, e_js1, e_ty_i, e_ty_b, e_ty_n, e_ty_s, e_ty_l, e_ty_t, e_isi_ii, e_isi_ib, e_isi_in, e_isi_is, e_isi_il, e_isi_it, e_isi_bi, e_isi_bb, e_isi_bn, e_isi_bs, e_isi_bl, e_isi_bt, e_isi_li, e_isi_lb, e_isi_ln, e_isi_ls, e_isi_ll, e_isi_lt, e_isi_ti, e_isi_tb, e_isi_tn, e_isi_ts, e_isi_tl, e_isi_tt, e_isi_si, e_isi_sb, e_isi_sn, e_isi_ss, e_isi_sl, e_isi_st, e_up, e_st0, e_st1, e_st2, exists_eq_left, exists_eq_left', exists_eq_right, exists_eq_right', exists_eq', exists_eq, true_and, and_true, and_self, false_and, and_false, exists_and_left, exists_and_right, exists_const, Option.some.injEq, Option.map_some, Option.map_none, Sl.is.injEq, Sl.own.injEq, D.py.injEq, D.ex.injEq, D.rf.injEq, PyData.int.injEq, PyData.bool.injEq, PyData.str.injEq, PyData.list.injEq, PyData.tuple.injEq, List.cons.injEq, if_true, if_false, eq_self, Bool.false_eq_true, Bool.true_eq_false, Bool.not_true, Bool.not_false, Bool.not_not, List.getElem?_cons_zero, List.getElem?_cons_succ, List.set_cons_zero, List.set_cons_succ, List.length_cons, List.length_nil, List.cons_append, List.nil_append, reduceCtorEq, List.replicate_zero, List.replicate_succ, Nat.reduceAdd, Nat.reduceSub, decide_true, decide_false, intsOf_map', blsOf_map', strsOf_map', map_int_inj, map_str_inj, map_bool_inj, map_itD_inj, itD_iff, sh_int, sh_bool, sh_none, sh_itD, sh_nil, sh_ints, sh_its, eqv_int, eqv_bool, eqv_str, eqv_itD, eqv_ints, eqv_strs, eqv_its, eqv_nil, Nat.zero_le, and_assoc, ne, List.map_append, List.map_cons, List.map_nil, atI_last, (atI_3 _ _ _).1, (atI_3 _ _ _).2.1]
      unfold stepRun at nx
      rw [List.getLast?_concat] at nx
      simp only at nx
      by_cases hq : p.2.1 = q - 1
      · rw [if_pos hq, List.dropLast_concat] at nx
        simp only [hq, wVar, wOwn, wC, wOp, wT, wChain, wAndT, wOrT, wNotT, wAnd, wOr, wNot, wIf, wNil, wCons, wDisp, wCall, wCall0, wNoPart, wPart, wSl, wRevL, wBlt, wItL, wItT, wItS, wRg1, wRg2, wEnum, wZip, wLR, wLR2, wYes, wM1, wFmt, wJoined, wIsi, wNeg, wNewD, wOwnCat, wPar2, wNext, wSeq, wNever, wSet, wNew, wAug, wExtend, wAppend, wPut, wFrz, wRet, wRetOwn, wRetN, wDrop, wIfS, wgName, wgTup, wUnp, wRaise, bodyEN, wLc, wFor, wSortSet, e_add_i, e_add_s, e_add_l, e_add_t, e_kadd_i, e_kadd_s, e_kadd_l, e_kadd_t, e_sub, e_kt, e_mul_i, e_mul_l, e_kmul_i, e_kmul_l, e_div, e_kdiv, e_mod, e_kmod, e_cmp, e_eq, e_ne, e_keq, e_is_n, e_is_b, e_isn_n, e_isn_b, e_non_n, e_non_l, e_non_t, e_non_i, e_non_s, e_non_b, e_non_x, e_in_l, e_in_t, e_ni_l, e_ni_t, e_kin_l, e_kin_t, e_kin_s, e_ix_l, e_ix_t, e_ix_s, e_kix_l, e_kix_t, e_kix_s, e_sl_l, e_sl_t, e_sl_s, e_len_l, e_len_t, e_len_s, e_klen_l, e_klen_t, e_klen_s, e_kany, e_list_l, e_list_t, e_tup_l, e_tup_t, e_sum, e_max, e_max2, e_min, e_kne, e_kne2, e_all, e_str, e_kstr, e_int, e_kint, e_split, e_ksplit, e_part, e_kpart, e_join, e_kjoin, e_pys0, e_pys1, e_sa0, e_sa1, e_wipe0, e_wipe1, e_js0, e_js1, e_ty_i, e_ty_b, e_ty_n, e_ty_s, e_ty_l, e_ty_t, e_isi_ii, e_isi_ib, e_isi_in, e_isi_is, e_isi_il, e_isi_it, e_isi_bi, e_isi_bb, e_isi_bn, e_isi_bs, e_isi_bl, e_isi_bt, e_isi_li, e_isi_lb, e_isi_ln, e_isi_ls, e_isi_ll, e_isi_lt, e_isi_ti, e_isi_tb, e_isi_tn, e_isi_ts, e_isi_tl, e_isi_tt, e_isi_si, e_isi_sb, e_isi_sn, e_isi_ss, e_isi_sl, e_isi_st, e_up, e_st0, e_st1, e_st2, exists_eq_left, exists_eq_left', exists_eq_right, exists_eq_right', exists_eq', exists_eq, true_and, and_true, and_self, false_and, and_false, exists_and_left, exists_and_right, exists_const, Option.some.injEq, Option.map_some, Option.map_none, Sl.is.injEq, Sl.own.injEq, D.py.injEq, D.ex.injEq, D.rf.injEq, PyData.int.injEq, PyData.bool.injEq, PyData.str.injEq, PyData.list.injEq, PyData.tuple.injEq, List.cons.injEq, if_true, if_false, eq_self, Bool.false_eq_true, Bool.true_eq_false, Bool.not_true, Bool.not_false, Bool.not_not, List.getElem?_cons_zero, List.getElem?_cons_succ, List.set_cons_zero, List.set_cons_succ, List.length_cons, List.length_nil, List.cons_append, List.nil_append, reduceCtorEq, List.replicate_zero, List.replicate_succ, Nat.reduceAdd, Nat.reduceSub, decide_true, decide_false, intsOf_map', blsOf_map', strsOf_map', map_int_inj, map_str_inj, map_bool_inj, map_itD_inj, itD_iff, sh_int, sh_bool, sh_none, sh_itD, sh_nil, sh_ints, sh_its, eqv_int, eqv_bool, eqv_str, eqv_itD, eqv_ints, eqv_strs, eqv_its, eqv_nil, Nat.zero_le, and_assoc, sl]
        refine ⟨(acc.map itD).length, ?_, ?_⟩
        · rw [List.length_append]
          exact ixN_last
        · rw [set_last]
          simpa using nx
      · rw [if_neg hq] at nx
        simp only [hq, wVar, wOwn, wC, wOp, wT, wChain, wAndT, wOrT, wNotT, wAnd, wOr, wNot, wIf, wNil, wCons, wDisp, wCall, wCall0, wNoPart, wPart, wSl, wRevL, wBlt, wItL, wItT, wItS, wRg1, wRg2, wEnum, wZip, wLR, wLR2, wYes, wM1, wFmt, wJoined, wIsi, wNeg, wNewD, wOwnCat, wPar2, wNext, wSeq, wNever, wSet, wNew, wAug, wExtend, wAppend, wPut, wFrz, wRet, wRetOwn, wRetN, wDrop, wIfS, wgName, wgTup, wUnp, wRaise, bodyEN, wLc, wFor, wSortSet, e_add_i, e_add_s, e_add_l, e_add_t, e_kadd_i, e_kadd_s, e_kadd_l, e_kadd_t, e_sub, e_kt, e_mul_i, e_mul_l, e_kmul_i, e_kmul_l, e_div, e_kdiv, e_mod, e_kmod, e_cmp, e_eq, e_ne, e_keq, e_is_n, e_is_b, e_isn_n, e_isn_b, e_non_n, e_non_l, e_non_t, e_non_i, e_non_s, e_non_b, e_non_x, e_in_l, e_in_t, e_ni_l, e_ni_t, e_kin_l, e_kin_t, e_kin_s, e_ix_l, e_ix_t, e_ix_s, e_kix_l, e_kix_t, e_kix_s, e_sl_l, e_sl_t, e_sl_s, e_len_l, e_len_t, e_len_s, e_klen_l, e_klen_t, e_klen_s, e_kany, e_list_l, e_list_t, e_tup_l, e_tup_t, e_sum, e_max, e_max2, e_min, e_kne, e_kne2, e_all, e_str, e_kstr, e_int, e_kint, e_split, e_ksplit, e_part, e_kpart, e_join, e_kjoin, e_pys0, e_pys1, e_sa0, e_sa1, e_wipe0, e_wipe1, e_js0, e_js1, e_ty_i, e_ty_b, e_ty_n, e_ty_s, e_ty_l, e_ty_t, e_isi_ii, e_isi_ib, e_isi_in, e_isi_is, e_isi_il, e_isi_it, e_isi_bi, e_isi_bb, e_isi_bn, e_isi_bs, e_isi_bl, e_isi_bt, e_isi_li, e_isi_lb, e_isi_ln, e_isi_ls, e_isi_ll, e_isi_lt, e_isi_ti, e_isi_tb, e_isi_tn, e_isi_ts, e_isi_tl, e_isi_tt, e_isi_si, e_isi_sb, e_isi_sn, e_isi_ss, e_isi_sl, e_isi_st, e_up, e_st0, e_st1, e_st2, exists_eq_left, exists_eq_left', exists_eq_right, exists_eq_right', exists_eq', exists_eq, true_and, and_true, and_self, false_and, and_false, exists_and_left, exists_and_right, exists_const, Option.some.injEq, Option.map_some, Option.map_none, Sl.is.injEq, Sl.own.injEq, D.py.injEq, D.ex.injEq, D.rf.injEq, PyData.int.injEq, PyData.bool.injEq, PyData.str.injEq, PyData.list.injEq, PyData.tuple.injEq, List.cons.injEq, if_true, if_false, eq_self, Bool.false_eq_true, Bool.true_eq_false, Bool.not_true, Bool.not_false, Bool.not_not, List.getElem?_cons_zero, List.getElem?_cons_succ, List.set_cons_zero, List.set_cons_succ, List.length_cons, List.length_nil, List.cons_append, List.nil_append, reduceCtorEq, List.replicate_zero, List.replicate_succ, Nat.reduceAdd, Nat.reduceSub, decide_true, decide_false, intsOf_map', blsOf_map', strsOf_map', map_int_inj, map_str_inj, map_bool_inj, map_itD_inj, itD_iff, sh_int, sh_bool, sh_none, sh_itD, sh_nil, sh_ints, sh_its, eqv_int, eqv_bool, eqv_str, eqv_itD, eqv_ints, eqv_strs, eqv_its, eqv_nil, Nat.zero_le, and_assoc, sl]
        refine ⟨by simpa using hsz, ?_⟩
        simpa using nx
  · obtain ⟨ys, x, e, hy, rfl⟩ := h
    simp only [wVar, wOwn, wC, wOp, wT, wChain, wAndT, wOrT, wNotT, wAnd, wOr, wNot, wIf, wNil, wCons, wDisp, wCall, wCall0, wNoPart, wPart, wSl, wRevL, wBlt, wItL, wItT, wItS, wRg1, wRg2, wEnum, wZip, wLR, wLR2, wYes, wM1, wFmt, wJoined, wIsi, wNeg, wNewD, wOwnCat, wPar2, wNext, wSeq, wNever, wSet, wNew, wAug, wExtend, wAppend, wPut, wFrz, wRet, wRetOwn, wRetN, wDrop, wIfS, wgName, wgTup, wUnp, wRaise, bodyEN, wLc, wFor, wSortSet, e_add_i, e_add_s, e_add_l, e_add_t, e_kadd_i, e_kadd_s, e_kadd_l, e_kadd_t, e_sub, e_kt, e_mul_i, e_mul_l, e_kmul_i, e_kmul_l, e_div, e_kdiv, e_mod, e_kmod, e_cmp, e_eq, e_ne, e_keq, e_is_n, e_is_b, e_isn_n, e_isn_b, e_non_n, e_non_l, e_non_t, e_non_i, e_non_s, e_non_b, e_non_x, e_in_l, e_in_t, e_ni_l, e_ni_t, e_kin_l, e_kin_t, e_kin_s, e_ix_l, e_ix_t, e_ix_s, e_kix_l, e_kix_t, e_kix_s, e_sl_l, e_sl_t, e_sl_s, e_len_l, e_len_t, e_len_s, e_klen_l, e_klen_t, e_klen_s, e_kany, e_list_l, e_list_t, e_tup_l, e_tup_t, e_sum, e_max, e_max2, e_min, e_kne, e_kne2, e_all, e_str, e_kstr, e_int, e_kint, e_split, e_ksplit, e_part, e_kpart, e_join, e_kjoin, e_pys0, e_pys1, e_sa0, e_sa1, e_wipe0, e_wipe1, e_js0, e_js1, e_ty_i, e_ty_b, e_ty_n, e_ty_s, e_ty_l, e_ty_t, e_isi_ii, e_isi_ib, e_isi_in, e_isi_is, e_isi_il, e_isi_it, e_isi_bi, e_isi_bb, e_isi_bn, e_isi_bs, e_isi_bl, e_isi_bt, e_isi_li, e_isi_lb, e_isi_ln, e_isi_ls, e_isi_ll, e_isi_lt, e_isi_ti, e_isi_tb, e_isi_tn, e_isi_ts, e_isi_tl, e_isi_tt, e_isi_si, e_isi_sb, e_isi_sn, e_isi_ss, e_isi_sl, e_isi_st, e_up, e_st0, e_st1, e_st2, exists_eq_left, exists_eq_left', exists_eq_right, exists_eq_right', exists_eq', exists_eq, true_and, and_true, and_self, false_and, and_false, exists_and_left, exists_and_right, exists_const, Option.some.injEq, Option.map_some, Option.map_none, Sl.is.injEq, Sl.own.injEq, D.py.injEq, D.ex.injEq, D.rf.injEq, PyData.int.injEq, PyData.bool.injEq, PyData.str.injEq, PyData.list.injEq, PyData.tuple.injEq, List.cons.injEq, if_true, if_false, eq_self, Bool.false_eq_true, Bool.true_eq_false, Bool.not_true, Bool.not_false, Bool.not_not, List.getElem?_cons_zero, List.getElem?_cons_succ, List.set_cons_zero, List.set_cons_succ, List.length_cons, List.length_nil, List.cons_append, List.nil_append, reduceCtorEq, List.replicate_zero, List.replicate_succ, Nat.reduceAdd, Nat.reduceSub, decide_true, decide_false, intsOf_map', blsOf_map', strsOf_map', map_int_inj, map_str_inj, map_bool_inj, map_itD_inj, itD_iff, sh_int, sh_bool, sh_none, sh_itD, sh_nil, sh_ints, sh_its, eqv_int, eqv_bool, eqv_str, eqv_itD, eqv_ints, eqv_strs, eqv_its, eqv_nil, Nat.zero_le, and_assoc]
    have ey : ys = ns := by rw [e]; simp
    rw [ey]
    exact n
/-! ### plain texts -/
def plainOf (ns : List Int) : Str := Txt.join "," ((runsOf ns).map textOf)
theorem runs_all : ∀ ns ∈ subs ten, (runsOf ns).all itemOk = true ∧ (runsOf ns).length ≤ 5 := by decide +kernel
def sp_plain_of : Spec0 := fun ds N _ => ∃ ns : List Int, ds = [.py (.list (ns.map .int))] ∧ ns ∈ subs ten ∧ N (.py (.str (plainOf ns)))
def w_plain_of : WS Unit :=
  wRet (wM1 fJoin kJoin (wC (.str ",")) (wLc (wItL (wCall0 sp_runs_of (wCons (wVar 0) (wNil)))) (wgName 1) (wYes) (wCall0 sp_text_of (wCons (wVar 1) (wNil))) [1]))
theorem sum_le {α : Type} (f : α → Nat) (k : Nat) : ∀ xs : List α, (∀ x ∈ xs, f x ≤ k) → (xs.map f).sum ≤ xs.length * k
  | [], _ => by simp
  | x :: xs, h => by
    have h1 := h x List.mem_cons_self
    have h2 := sum_le f k xs fun y hy => h y (List.mem_cons_of_mem _ hy)
    simp only [List.map_cons, List.sum_cons, List.length_cons, Nat.add_mul, Nat.one_mul]
    omega
theorem comma_len : ("," : Str).length = 1 := by decide +kernel
/-- the texts of items, joined -/
theorem joins_ok {its : List Itm} (h : its.all itemOk = true) (hl : its.length ≤ 1000) : ((its.map textOf).map (·.length)).sum + (its.map textOf).length * ("," : Str).length ≤ 16777216 := by
  have := sum_le (fun q => (textOf q).length) 7 its fun q hq => (item_texts q (item_mem.mp (List.all_eq_true.mp h q hq))).2.1
  rw [List.map_map, comma_len, List.length_map]
  simp only [Function.comp_def]
  omega
theorem law_plain_of : ∀ ds θ N Nx, sp_plain_of.up ds θ N Nx → w_plain_of (bodyEN N Nx) (startD 2 ds) θ := by
  rintro ds θ N Nx ⟨ns, rfl, hs, n⟩
  obtain ⟨r1, r2⟩ := runs_all ns hs
  simp only [w_plain_of, sp_runs_of, wVar, wOwn, wC, wOp, wT, wChain, wAndT, wOrT, wNotT, wAnd, wOr, wNot, wIf, wNil, wCons, wDisp, wCall, wCall0, wNoPart, wPart, wSl, wRevL, wBlt, wItL, wItT, wItS, wRg1, wRg2, wEnum, wZip, wLR, wLR2, wYes, wM1, wFmt, wJoined, wIsi, wNeg, wNewD, wOwnCat, wPar2, wNext, wSeq, wNever, wSet, wNew, wAug, wExtend, wAppend, wPut, wFrz, wRet, wRetOwn, wRetN, wDrop, wIfS, wgName, wgTup, wUnp, wRaise, bodyEN, wLc, wFor, wSortSet, e_add_i, e_add_s, e_add_l, e_add_t, e_kadd_i, e_kadd_s, e_kadd_l, e_kadd_t, e_sub, e_kt, e_mul_i, e_mul_l, e_kmul_i, e_kmul_l, e_div, e_kdiv, e_mod, e_kmod, e_cmp, e_eq, e_ne, e_keq, e_is_n, e_is_b, e_isn_n, e_isn_b, e_non_n, e_non_l, e_non_t, e_non_i, e_non_s, e_non_b, e_non_x, e_in_l, e_in_t, e_ni_l, e_ni_t, e_kin_l, e_kin_t, e_kin_s, e_ix_l, e_ix_t, e_ix_s, e_kix_l, e_kix_t, e_kix_s, e_sl_l, e_sl_t, e_sl_s, e_len_l, e_len_t, e_len_s, e_klen_l, e_klen_t, e_klen_s, e_kany, e_list_l, e_list_t, e_tup_l, e_tup_t, e_sum, e_max, e_max2, e_min, e_kne, e_kne2, e_all, e_str, e_kstr, e_int, e_kint, e_split, e_ksplit, e_part, e_kpart, e_join, e_kjoin, e_pys0, e_pys1, e_sa0, e_sa1, e_wipe0, e_wipe1, e_js0, e_js1, e_ty_i, e_ty_b, e_ty_n, e_ty_s, e_ty_l, e_ty_t, e_isi_ii, e_isi_ib, e_isi_in, e_isi_is, e_isi_il, e_isi_it, e_isi_bi, e_isi_bb, e_isi_bn, e_isi_bs, e_isi_bl, e_isi_bt, e_isi_li, e_isi_lb, e_isi_ln, e_isi_ls, e_isi_ll, e_isi_lt, e_isi_ti, e_isi_tb, e_isi_tn, e_isi_ts, e_isi_tl, e_isi_tt, e_isi_si, e_isi_sb, e_isi_sn, e_isi_ss, e_isi_sl, e_isi_st, e_up, e_st0, e_st1, e_st2, exists_eq_left, exists_eq_left', exists_eq_right, exists_eq_right', exists_eq', exists_eq, true_and, and_true, and_self, false_and, and_false, exists_and_left, exists_and_right, exists_const, Option.some.injEq, Option.map_some, Option.map_none, Sl.is.injEq, Sl.own.injEq, D.py.injEq, D.ex.injEq, D.rf.injEq, PyData.int.injEq, PyData.bool.injEq, PyData.str.injEq, PyData.list.injEq, PyData.tuple.injEq, List.cons.injEq, if_true, if_false, eq_self, Bool.false_eq_true, Bool.true_eq_false, Bool.not_true, Bool.not_false, Bool.not_not, List.getElem?_cons_zero, List.getElem?_cons_succ, List.set_cons_zero, List.set_cons_succ, List.length_cons, List.length_nil, List.cons_append, List.nil_append, reduceCtorEq, List.replicate_zero, List.replicate_succ, Nat.reduceAdd, Nat.reduceSub, decide_true, decide_false, intsOf_map', blsOf_map', strsOf_map', map_int_inj, map_str_inj, map_bool_inj, map_itD_inj, itD_iff, sh_int, sh_bool, sh_none, sh_itD, sh_nil, sh_ints, sh_its, eqv_int, eqv_bool, eqv_str, eqv_itD, eqv_ints, eqv_strs, eqv_its, eqv_nil, Nat.zero_le, and_assoc, List.map_map]
  refine ⟨by have := subs_len hs; omega, ?_⟩
  refine lcGo_map (D.py ∘ itD) (fun q => .str (textOf q)) _ (fun q hq T t => ?_) (le_line (by omega)) ?_
  · simp only [sp_text_of, Function.comp, wVar, wOwn, wC, wOp, wT, wChain, wAndT, wOrT, wNotT, wAnd, wOr, wNot, wIf, wNil, wCons, wDisp, wCall, wCall0, wNoPart, wPart, wSl, wRevL, wBlt, wItL, wItT, wItS, wRg1, wRg2, wEnum, wZip, wLR, wLR2, wYes, wM1, wFmt, wJoined, wIsi, wNeg, wNewD, wOwnCat, wPar2, wNext, wSeq, wNever, wSet, wNew, wAug, wExtend, wAppend, wPut, wFrz, wRet, wRetOwn, wRetN, wDrop, wIfS, wgName, wgTup, wUnp, wRaise, bodyEN, wLc, wFor, wSortSet, e_add_i, e_add_s, e_add_l, e_add_t, e_kadd_i, e_kadd_s, e_kadd_l, e_kadd_t, e_sub, e_kt, e_mul_i, e_mul_l, e_kmul_i, e_kmul_l, e_div, e_kdiv, e_mod, e_kmod, e_cmp, e_eq, e_ne, e_keq, e_is_n, e_is_b, e_isn_n, e_isn_b, e_non_n, e_non_l, e_non_t, e_non_i, e_non_s, e_non_b, e_non_x, e_in_l, e_in_t, e_ni_l, e_ni_t, e_kin_l, e_kin_t, e_kin_s, e_ix_l, e_ix_t, e_ix_s, e_kix_l, e_kix_t, e_kix_s, e_sl_l, e_sl_t, e_sl_s, e_len_l, e_len_t, e_len_s, e_klen_l, e_klen_t, e_klen_s, e_kany, e_list_l, e_list_t, e_tup_l, e_tup_t, e_sum, e_max, e_max2, e_min, e_kne, e_kne2, e_all, e_str, e_kstr, e_int, e_kint, e_split, e_ksplit, e_part, e_kpart, e_join, e_kjoin, e_pys0, e_pys1, e_sa0, e_sa1, e_wipe0, e_wipe1, e_js0, e_js1, e_ty_i, e_ty_b, e_ty_n, e_ty_s, e_ty_l, e_ty_t, e_isi_ii, e_isi_ib, e_isi_in, e_isi_is, e_isi_il, e_isi_it, e_isi_bi, e_isi_bb, e_isi_bn, e_isi_bs, e_isi_bl, e_isi_bt, e_isi_li, e_isi_lb, e_isi_ln, e_isi_ls, e_isi_ll, e_isi_lt, e_isi_ti, e_isi_tb, e_isi_tn, e_isi_ts, e_isi_tl, e_isi_tt, e_isi_si, e_isi_sb, e_isi_sn, e_isi_ss, e_isi_sl, e_isi_st, e_up, e_st0, e_st1, e_st2, exists_eq_left, exists_eq_left', exists_eq_right, exists_eq_right', exists_eq', exists_eq, true_and, and_true, and_self, false_and, and_false, exists_and_left, exists_and_right, exists_const, Option.some.injEq, Option.map_some, Option.map_none, Sl.is.injEq, Sl.own.injEq, D.py.injEq, D.ex.injEq, D.rf.injEq, PyData.int.injEq, PyData.bool.injEq, PyData.str.injEq, PyData.list.injEq, PyData.tuple.injEq, List.cons.injEq, if_true, if_false, eq_self, Bool.false_eq_true, Bool.true_eq_false, Bool.not_true, Bool.not_false, Bool.not_not, List.getElem?_cons_zero, List.getElem?_cons_succ, List.set_cons_zero, List.set_cons_succ, List.length_cons, List.length_nil, List.cons_append, List.nil_append, reduceCtorEq, List.replicate_zero, List.replicate_succ, Nat.reduceAdd, Nat.reduceSub, decide_true, decide_false, intsOf_map', blsOf_map', strsOf_map', map_int_inj, map_str_inj, map_bool_inj, map_itD_inj, itD_iff, sh_int, sh_bool, sh_none, sh_itD, sh_nil, sh_ints, sh_its, eqv_int, eqv_bool, eqv_str, eqv_itD, eqv_ints, eqv_strs, eqv_its, eqv_nil, Nat.zero_le, and_assoc]
    exact ⟨q, rfl, rfl, rfl, List.all_eq_true.mp r1 q hq, t⟩
  · have e : (runsOf ns).map (fun q => PyData.str (textOf q)) = ((runsOf ns).map textOf).map PyData.str := by simp
    rw [e]
    simp only [wVar, wOwn, wC, wOp, wT, wChain, wAndT, wOrT, wNotT, wAnd, wOr, wNot, wIf, wNil, wCons, wDisp, wCall, wCall0, wNoPart, wPart, wSl, wRevL, wBlt, wItL, wItT, wItS, wRg1, wRg2, wEnum, wZip, wLR, wLR2, wYes, wM1, wFmt, wJoined, wIsi, wNeg, wNewD, wOwnCat, wPar2, wNext, wSeq, wNever, wSet, wNew, wAug, wExtend, wAppend, wPut, wFrz, wRet, wRetOwn, wRetN, wDrop, wIfS, wgName, wgTup, wUnp, wRaise, bodyEN, wLc, wFor, wSortSet, e_add_i, e_add_s, e_add_l, e_add_t, e_kadd_i, e_kadd_s, e_kadd_l, e_kadd_t, e_sub, e_kt, e_mul_i, e_mul_l, e_kmul_i, e_kmul_l, e_div, e_kdiv, e_mod, e_kmod, e_cmp, e_eq, e_ne, e_keq, e_is_n, e_is_b, e_isn_n, e_isn_b, e_non_n, e_non_l, e_non_t, e_non_i, e_non_s, e_non_b, e_non_x, e_in_l, e_in_t, e_ni_l, e_ni_t, e_kin_l, e_kin_t, e_kin_s, e_ix_l, e_ix_t, e_ix_s, e_kix_l, e_kix_t, e_kix_s, e_sl_l, e_sl_t, e_sl_s, e_len_l, e_len_t, e_len_s, e_klen_l, e_klen_t, e_klen_s, e_kany, e_list_l, e_list_t, e_tup_l, e_tup_t, e_sum, e_max, e_max2, e_min, e_kne, e_kne2, e_all, e_str, e_kstr, e_int, e_kint, e_split, e_ksplit, e_part, e_kpart, e_join, e_kjoin, e_pys0, e_pys1, e_sa0, e_sa1, e_wipe0, e_wipe1, e_js0, e_js1, e_ty_i, e_ty_b, e_ty_n, e_ty_s, e_ty_l, e_ty_t, e_isi_ii, e_isi_ib, e_isi_in, e_isi_is, e_isi_il, e_isi_it, e_isi_bi, e_isi_bb, e_isi_bn, e_isi_bs, e_isi_bl, e_isi_bt, e_isi_li, e_isi_lb, e_isi_ln, e_isi_ls, e_isi_ll, e_isi_lt, e_isi_ti, e_isi_tb, e_isi_tn, e_isi_ts, e_isi_tl, e_isi_tt, e_isi_si, e_isi_sb, e_isi_sn, e_isi_ss, e_isi_sl, e_isi_st, e_up, e_st0, e_st1, e_st2, exists_eq_left, exists_eq_left', exists_eq_right, exists_eq_right', exists_eq', exists_eq, true_and, and_true, and_self, false_and, and_false, exists_and_left, exists_and_right, exists_const, Option.some.injEq, Option.map_some, Option.map_none, Sl.is.injEq, Sl.own.injEq, D.py.injEq, D.ex.injEq, D.rf.injEq, PyData.int.injEq, PyData.bool.injEq, PyData.str.injEq, PyData.list.injEq, PyData.tuple.injEq, List.cons.injEq, if_true, if_false, eq_self, Bool.false_eq_true, Bool.true_eq_false, Bool.not_true, Bool.not_false, Bool.not_not, List.getElem?_cons_zero, List.getElem?_cons_succ, List.set_cons_zero, List.set_cons_succ, List.length_cons, List.length_nil, List.cons_append, List.nil_append, reduceCtorEq, List.replicate_zero, List.replicate_succ, Nat.reduceAdd, Nat.reduceSub, decide_true, decide_false, intsOf_map', blsOf_map', strsOf_map', map_int_inj, map_str_inj, map_bool_inj, map_itD_inj, itD_iff, sh_int, sh_bool, sh_none, sh_itD, sh_nil, sh_ints, sh_its, eqv_int, eqv_bool, eqv_str, eqv_itD, eqv_ints, eqv_strs, eqv_its, eqv_nil, Nat.zero_le, and_assoc]
    refine ⟨fun ys hy => ?_, n⟩
    subst hy
    exact joins_ok r1 (by omega)
end RT
end
section
set_option Elab.async false
set_option linter.all false
set_option maxRecDepth 100000
set_option maxHeartbeats 4000000
namespace RT
open PySem PySem.Spec PyProof.Rows L2
def sp_runs : Spec0 := fun ds N Nx => ∃ d, ds = [.py d] ∧ Fine d ∧ (match setD d with | some ns => N (.py (.list ((runsOf ns).map itD))) | none => Nx .set)
def w_runs : WS Unit :=
  wSeq (wDrop (wCall0 sp_check_set (wCons (wVar 0) (wNil)))) (wRet (wCall0 sp_runs_of (wCons (wVar 0) (wNil))))
theorem law_runs : ∀ ds θ N Nx, sp_runs.up ds θ N Nx → w_runs (bodyEN N Nx) (startD 1 ds) θ := by
  rintro ds θ N Nx ⟨d, rfl, fn, n⟩
  simp only [w_runs, sp_check_set, wVar, wOwn, wC, wOp, wT, wChain, wAndT, wOrT, wNotT, wAnd, wOr, wNot, wIf, wNil, wCons, wDisp, wCall, wCall0, wNoPart, wPart, wSl, wRevL, wBlt, wItL, wItT, wItS, wRg1, wRg2, wEnum, wZip, wLR, wLR2, wYes, wM1, wFmt, wJoined, wIsi, wNeg, wNewD, wOwnCat, wPar2, wNext, wSeq, wNever, wSet, wNew, wAug, wExtend, wAppend, wPut, wFrz, wRet, wRetOwn, wRetN, wDrop, wIfS, wgName, wgTup, wUnp, wRaise, bodyEN, wLc, wFor, wSortSet, e_add_i, e_add_s, e_add_l, e_add_t, e_kadd_i, e_kadd_s, e_kadd_l, e_kadd_t, e_sub, e_kt, e_mul_i, e_mul_l, e_kmul_i, e_kmul_l, e_div, e_kdiv, e_mod, e_kmod, e_cmp, e_eq, e_ne, e_keq, e_is_n, e_is_b, e_isn_n, e_isn_b, e_non_n, e_non_l, e_non_t, e_non_i, e_non_s, e_non_b, e_non_x, e_in_l, e_in_t, e_ni_l, e_ni_t, e_kin_l, e_kin_t, e_kin_s, e_ix_l, e_ix_t, e_ix_s, e_kix_l, e_kix_t, e_kix_s, e_sl_l, e_sl_t, e_sl_s, e_len_l, e_len_t, e_len_s, e_klen_l, e_klen_t, e_klen_s, e_kany, e_list_l, e_list_t, e_tup_l, e_tup_t, e_sum, e_max, e_max2, e_min, e_kne, e_kne2, e_all, e_str, e_kstr, e_int, e_kint, e_split, e_ksplit, e_part, e_kpart, e_join, e_kjoin, e_pys0, e_pys1, e_sa0, e_sa1, e_wipe0, e_wipe1, e_js0, e_js1, e_ty_i, e_ty_b, e_ty_n, e_ty_s, e_ty_l, e_ty_t, e_isi_ii, e_isi_ib, e_isi_in, e_isi_is, e_isi_il, e_isi_it, e_isi_bi, e_isi_bb, e_isi_bn, e_isi_bs, e_isi_bl, e_isi_bt, e_isi_li, e_isi_lb, e_isi_ln, e_isi_ls, e_isi_ll, e_isi_lt, e_isi_ti, e_isi_tb, e_isi_tn, e_isi_ts, e_isi_tl, e_isi_tt, e_isi_si, e_isi_sb, e_isi_sn, e_isi_ss, e_isi_sl, e_isi_st, e_up, e_st0, e_st1, e_st2, exists_eq_left, exists_eq_left', exists_eq_right, exists_eq_right', exists_eq', exists_eq, true_and, and_true, and_self, false_and, and_false, exists_and_left, exists_and_right, exists_const, Option.some.injEq, Option.map_some, Option.map_none, Sl.is.injEq, Sl.own.injEq, D.py.injEq, D.ex.injEq, D.rf.injEq, PyData.int.injEq, PyData.bool.injEq, PyData.str.injEq, PyData.list.injEq, PyData.tuple.injEq, List.cons.injEq, if_true, if_false, eq_self, Bool.false_eq_true, Bool.true_eq_false, Bool.not_true, Bool.not_false, Bool.not_not, List.getElem?_cons_zero, List.getElem?_cons_succ, List.set_cons_zero, List.set_cons_succ, List.length_cons, List.length_nil, List.cons_append, List.nil_append, reduceCtorEq, List.replicate_zero, List.replicate_succ, Nat.reduceAdd, Nat.reduceSub, decide_true, decide_false, intsOf_map', blsOf_map', strsOf_map', map_int_inj, map_str_inj, map_bool_inj, map_itD_inj, itD_iff, sh_int, sh_bool, sh_none, sh_itD, sh_nil, sh_ints, sh_its, eqv_int, eqv_bool, eqv_str, eqv_itD, eqv_ints, eqv_strs, eqv_its, eqv_nil, Nat.zero_le, and_assoc]
  refine ⟨fn, ?_⟩
  rw [isSetD_eq]
  cases h : setD d with
  | none => simp only [h, Option.isSome_none, wVar, wOwn, wC, wOp, wT, wChain, wAndT, wOrT, wNotT, wAnd, wOr, wNot, wIf, wNil, wCons, wDisp, wCall, wCall0, wNoPart, wPart, wSl, wRevL, wBlt, wItL, wItT, wItS, wRg1, wRg2, wEnum, wZip, wLR, wLR2, wYes, wM1, wFmt, wJoined, wIsi, wNeg, wNewD, wOwnCat, wPar2, wNext, wSeq, wNever, wSet, wNew, wAug, wExtend, wAppend, wPut, wFrz, wRet, wRetOwn, wRetN, wDrop, wIfS, wgName, wgTup, wUnp, wRaise, bodyEN, wLc, wFor, wSortSet, e_add_i, e_add_s, e_add_l, e_add_t, e_kadd_i, e_kadd_s, e_kadd_l, e_kadd_t, e_sub, e_kt, e_mul_i, e_mul_l, e_kmul_i, e_kmul_l, e_div, e_kdiv, e_mod, e_kmod, e_cmp, e_eq, e_ne, e_keq, e_is_n, e_is_b, e_isn_n, e_isn_b, e_non_n, e_non_l, e_non_t, e_non_i, e_non_s, e_non_b, e_non_x, e_in_l, e_in_t, e_ni_l, e_ni_t, e_kin_l, e_kin_t, e_kin_s, e_ix_l, e_ix_t, e_ix_s, e_kix_l, e_kix_t, e_kix_s, e_sl_l, e_sl_t, e_sl_s, e_len_l, e_len_t, e_len_s, e_klen_l, e_klen_t, e_klen_s, e_kany, e_list_l, e_list_t, e_tup_l, e_tup_t, e_sum, e_max, e_max2, e_min, e_kne, e_kne2, e_all, e_str, e_kstr, e_int, e_kint, e_split, e_ksplit, e_part, e_kpart, e_join, e_kjoin, e_pys0, e_pys1, e_sa0, e_sa1, e_wipe0, e_wipe1, e_js0, e_js1, e_ty_i, e_ty_b, e_ty_n, e_ty_s, e_ty_l, e_ty_t, e_isi_ii, e_isi_ib, e_isi_in, e_isi_is, e_isi_il, e_isi_it, e_isi_bi, e_isi_bb, e_isi_bn, e_isi_bs, e_isi_bl, e_isi_bt, e_isi_li, e_isi_lb, e_isi_ln, e_isi_ls, e_isi_ll, e_isi_lt, e_isi_ti, e_isi_tb, e_isi_tn, e_isi_ts, e_isi_tl, e_isi_tt, e_isi_si, e_isi_sb, e_isi_sn, e_isi_ss, e_isi_sl, e_isi_st, e_up, e_st0, e_st1, e_st2, exists_eq_left, exists_eq_left', exists_eq_right, exists_eq_right', exists_eq', exists_eq, true_and, and_true, and_self, false_and, and_false, exists_and_left, exists_and_right, exists_const, Option.some.injEq, Option.map_some, Option.map_none, Sl.is.injEq, Sl.own.injEq, D.py.injEq, D.ex.injEq, D.rf.injEq, PyData.int.injEq, PyData.bool.injEq, PyData.str.injEq, PyData.list.injEq, PyData.tuple.injEq, List.cons.injEq, if_true, if_false, eq_self, Bool.false_eq_true, Bool.true_eq_false, Bool.not_true, Bool.not_false, Bool.not_not, List.getElem?_cons_zero, List.getElem?_cons_succ, List.set_cons_zero, List.set_cons_succ, List.length_cons, List.length_nil, List.cons_append, List.nil_append, reduceCtorEq, List.replicate_zero, List.replicate_succ, Nat.reduceAdd, Nat.reduceSub, decide_true, decide_false, intsOf_map', blsOf_map', strsOf_map', map_int_inj, map_str_inj, map_bool_inj, map_itD_inj, itD_iff, sh_int, sh_bool, sh_none, sh_itD, sh_nil, sh_ints, sh_its, eqv_int, eqv_bool, eqv_str, eqv_itD, eqv_ints, eqv_strs, eqv_its, eqv_nil, Nat.zero_le, and_assoc] at n ⊢; exact n
  | some ns =>
    obtain ⟨rfl, hs⟩ := setD_some h
    simp only [h, Option.isSome_some, wVar, wOwn, wC, wOp, wT, wChain, wAndT, wOrT, wNotT, wAnd, wOr, wNot, wIf, wNil, wCons, wDisp, wCall, wCall0, wNoPart, wPart, wSl, wRevL, wBlt, wItL, wItT, wItS, wRg1, wRg2, wEnum, wZip, wLR, wLR2, wYes, wM1, wFmt, wJoined, wIsi, wNeg, wNewD, wOwnCat, wPar2, wNext, wSeq, wNever, wSet, wNew, wAug, wExtend, wAppend, wPut, wFrz, wRet, wRetOwn, wRetN, wDrop, wIfS, wgName, wgTup, wUnp, wRaise, bodyEN, wLc, wFor, wSortSet, e_add_i, e_add_s, e_add_l, e_add_t, e_kadd_i, e_kadd_s, e_kadd_l, e_kadd_t, e_sub, e_kt, e_mul_i, e_mul_l, e_kmul_i, e_kmul_l, e_div, e_kdiv, e_mod, e_kmod, e_cmp, e_eq, e_ne, e_keq, e_is_n, e_is_b, e_isn_n, e_isn_b, e_non_n, e_non_l, e_non_t, e_non_i, e_non_s, e_non_b, e_non_x, e_in_l, e_in_t, e_ni_l, e_ni_t, e_kin_l, e_kin_t, e_kin_s, e_ix_l, e_ix_t, e_ix_s, e_kix_l, e_kix_t, e_kix_s, e_sl_l, e_sl_t, e_sl_s, e_len_l, e_len_t, e_len_s, e_klen_l, e_klen_t, e_klen_s, e_kany, e_list_l, e_list_t, e_tup_l, e_tup_t, e_sum, e_max, e_max2, e_min, e_kne, e_kne2, e_all, e_str, e_kstr, e_int, e_kint, e_split, e_ksplit, e_part, e_kpart, e_join, e_kjoin, e_pys0, e_pys1, e_sa0, e_sa1, e_wipe0, e_wipe1, e_js0, e_js1, e_ty_i, e_ty_b, e_ty_n, e_ty_s, e_ty_l, e_ty_t, e_isi_ii, e_isi_ib, e_isi_in, e_isi_is, e_isi_il, e_isi_it, e_isi_bi, e_isi_bb, e_isi_bn, e_isi_bs, e_isi_bl, e_isi_bt, e_isi_li, e_isi_lb, e_isi_ln, e_isi_ls, e_isi_ll, e_isi_lt, e_isi_ti, e_isi_tb, e_isi_tn, e_isi_ts, e_isi_tl, e_isi_tt, e_isi_si, e_isi_sb, e_isi_sn, e_isi_ss, e_isi_sl, e_isi_st, e_up, e_st0, e_st1, e_st2, exists_eq_left, exists_eq_left', exists_eq_right, exists_eq_right', exists_eq', exists_eq, true_and, and_true, and_self, false_and, and_false, exists_and_left, exists_and_right, exists_const, Option.some.injEq, Option.map_some, Option.map_none, Sl.is.injEq, Sl.own.injEq, D.py.injEq, D.ex.injEq, D.rf.injEq, PyData.int.injEq, PyData.bool.injEq, PyData.str.injEq, PyData.list.injEq, PyData.tuple.injEq, List.cons.injEq, if_true, if_false, eq_self, Bool.false_eq_true, Bool.true_eq_false, Bool.not_true, Bool.not_false, Bool.not_not, List.getElem?_cons_zero, List.getElem?_cons_succ, List.set_cons_zero, List.set_cons_succ, List.length_cons, List.length_nil, List.cons_append, List.nil_append, reduceCtorEq, List.replicate_zero, List.replicate_succ, Nat.reduceAdd, Nat.reduceSub, decide_true, decide_false, intsOf_map', blsOf_map', strsOf_map', map_int_inj, map_str_inj, map_bool_inj, map_itD_inj, itD_iff, sh_int, sh_bool, sh_none, sh_itD, sh_nil, sh_ints, sh_its, eqv_int, eqv_bool, eqv_str, eqv_itD, eqv_ints, eqv_strs, eqv_its, eqv_nil, Nat.zero_le, and_assoc, sp_runs_of] at n ⊢
    have := subs_len (setI_iff.mp hs).1
    exact ⟨by omega, n⟩
def sp_plain : Spec0 := fun ds N Nx => ∃ d, ds = [.py d] ∧ Fine d ∧ (match setD d with | some ns => N (.py (.str (plainOf ns))) | none => Nx .set)
def w_plain : WS Unit :=
  wSeq (wDrop (wCall0 sp_check_set (wCons (wVar 0) (wNil)))) (wRet (wCall0 sp_plain_of (wCons (wVar 0) (wNil))))
theorem law_plain : ∀ ds θ N Nx, sp_plain.up ds θ N Nx → w_plain (bodyEN N Nx) (startD 1 ds) θ := by
  rintro ds θ N Nx ⟨d, rfl, fn, n⟩
  simp only [w_plain, sp_check_set, wVar, wOwn, wC, wOp, wT, wChain, wAndT, wOrT, wNotT, wAnd, wOr, wNot, wIf, wNil, wCons, wDisp, wCall, wCall0, wNoPart, wPart, wSl, wRevL, wBlt, wItL, wItT, wItS, wRg1, wRg2, wEnum, wZip, wLR, wLR2, wYes, wM1, wFmt, wJoined, wIsi, wNeg, wNewD, wOwnCat, wPar2, wNext, wSeq, wNever, wSet, wNew, wAug, wExtend, wAppend, wPut, wFrz, wRet, wRetOwn, wRetN, wDrop, wIfS, wgName, wgTup, wUnp, wRaise, bodyEN, wLc, wFor, wSortSet, e_add_i, e_add_s, e_add_l, e_add_t, e_kadd_i, e_kadd_s, e_kadd_l, e_kadd_t, e_sub, e_kt, e_mul_i, e_mul_l, e_kmul_i, e_kmul_l, e_div, e_kdiv, e_mod, e_kmod, e_cmp, e_eq, e_ne, e_keq, e_is_n, e_is_b, e_isn_n, e_isn_b, e_non_n, e_non_l, e_non_t, e_non_i, e_non_s, e_non_b, e_non_x, e_in_l, e_in_t, e_ni_l, e_ni_t, e_kin_l, e_kin_t, e_kin_s, e_ix_l, e_ix_t, e_ix_s, e_kix_l, e_kix_t, e_kix_s, e_sl_l, e_sl_t, e_sl_s, e_len_l, e_len_t, e_len_s, e_klen_l, e_klen_t, e_klen_s, e_kany, e_list_l, e_list_t, e_tup_l, e_tup_t, e_sum, e_max, e_max2, e_min, e_kne, e_kne2, e_all, e_str, e_kstr, e_int, e_kint, e_split, e_ksplit, e_part, e_kpart, e_join, e_kjoin, e_pys0, e_pys1, e_sa0, e_sa1, e_wipe0, e_wipe1, e_js0, e_js1, e_ty_i, e_ty_b, e_ty_n, e_ty_s, e_ty_l, e_ty_t, e_isi_ii, e_isi_ib, e_isi_in, e_isi_is, e_isi_il, e_isi_it, e_isi_bi, e_isi_bb, e_isi_bn, e_isi_bs, e_isi_bl, e_isi_bt, e_isi_li, e_isi_lb, e_isi_ln, e_isi_ls, e_isi_ll, e_isi_lt, e_isi_ti, e_isi_tb, e_isi_tn, e_isi_ts, e_isi_tl, e_isi_tt, e_isi_si, e_isi_sb, e_isi_sn, e_isi_ss, e_isi_sl, e_isi_st, e_up, e_st0, e_st1, e_st2, exists_eq_left, exists_eq_left', exists_eq_right, exists_eq_right', exists_eq', exists_eq, true_and, and_true, and_self, false_and, and_false, exists_and_left, exists_and_right, exists_const, Option.some.injEq, Option.map_some, Option.map_none, Sl.is.injEq, Sl.own.injEq, D.py.injEq, D.ex.injEq, D.rf.injEq, PyData.int.injEq, PyData.bool.injEq, PyData.str.injEq, PyData.list.injEq, PyData.tuple.injEq, List.cons.injEq, if_true, if_false, eq_self, Bool.false_eq_true, Bool.true_eq_false, Bool.not_true, Bool.not_false, Bool.not_not, List.getElem?_cons_zero, List.getElem?_cons_succ, List.set_cons_zero, List.set_cons_succ, List.length_cons, List.length_nil, List.cons_append, List.nil_append, reduceCtorEq, List.replicate_zero, List.replicate_succ, Nat.reduceAdd, Nat.reduceSub, decide_true, decide_false, intsOf_map', blsOf_map', strsOf_map', map_int_inj, map_str_inj, map_bool_inj, map_itD_inj, itD_iff, sh_int, sh_bool, sh_none, sh_itD, sh_nil, sh_ints, sh_its, eqv_int, eqv_bool, eqv_str, eqv_itD, eqv_ints, eqv_strs, eqv_its, eqv_nil, Nat.zero_le, and_assoc]
  refine ⟨fn, ?_⟩
  rw [isSetD_eq]
  cases h : setD d with
  | none => simp only [h, Option.isSome_none, wVar, wOwn, wC, wOp, wT, wChain, wAndT, wOrT, wNotT, wAnd, wOr, wNot, wIf, wNil, wCons, wDisp, wCall, wCall0, wNoPart, wPart, wSl, wRevL, wBlt, wItL, wItT, wItS, wRg1, wRg2, wEnum, wZip, wLR, wLR2, wYes, wM1, wFmt, wJoined, wIsi, wNeg, wNewD, wOwnCat, wPar2, wNext, wSeq, wNever, wSet, wNew, wAug, wExtend, wAppend, wPut, wFrz, wRet, wRetOwn, wRetN, wDrop, wIfS, wgName, wgTup, wUnp, wRaise, bodyEN, wLc, wFor, wSortSet, e_add_i, e_add_s, e_add_l, e_add_t, e_kadd_i, e_kadd_s, e_kadd_l, e_kadd_t, e_sub, e_kt, e_mul_i, e_mul_l, e_kmul_i, e_kmul_l, e_div, e_kdiv, e_mod, e_kmod, e_cmp, e_eq, e_ne, e_keq, e_is_n, e_is_b, e_isn_n, e_isn_b, e_non_n, e_non_l, e_non_t, e_non_i, e_non_s, e_non_b, e_non_x, e_in_l, e_in_t, e_ni_l, e_ni_t, e_kin_l, e_kin_t, e_kin_s, e_ix_l, e_ix_t, e_ix_s, e_kix_l, e_kix_t, e_kix_s, e_sl_l, e_sl_t, e_sl_s, e_len_l, e_len_t, e_len_s, e_klen_l, e_klen_t, e_klen_s, e_kany, e_list_l, e_list_t, e_tup_l, e_tup_t, e_sum, e_max, e_max2, e_min, e_kne, e_kne2, e_all, e_str, e_kstr, e_int, e_kint, e_split, e_ksplit, e_part, e_kpart, e_join, e_kjoin, e_pys0, e_pys1, e_sa0, e_sa1, e_wipe0, e_wipe1, e_js0, e_js1, e_ty_i, e_ty_b, e_ty_n, e_ty_s, e_ty_l, e_ty_t, e_isi_ii, e_isi_ib, e_isi_in, e_isi_is, e_isi_il, e_isi_it, e_isi_bi, e_isi_bb, e_isi_bn, e_isi_bs, e_isi_bl, e_isi_bt, e_isi_li, e_isi_lb, e_isi_ln, e_isi_ls, e_isi_ll, e_isi_lt, e_isi_ti, e_isi_tb, e_isi_tn, e_isi_ts, e_isi_tl, e_isi_tt, e_isi_si, e_isi_sb, e_isi_sn, e_isi_ss, e_isi_sl, e_isi_st, e_up, e_st0, e_st1, e_st2, exists_eq_left, exists_eq_left', exists_eq_right, exists_eq_right', exists_eq', exists_eq, true_and, and_true, and_self, false_and, and_false, exists_and_left, exists_and_right, exists_const, Option.some.injEq, Option.map_some, Option.map_none, Sl.is.injEq, Sl.own.injEq, D.py.injEq, D.ex.injEq, D.rf.injEq, PyData.int.injEq, PyData.bool.injEq, PyData.str.injEq, PyData.list.injEq, PyData.tuple.injEq, List.cons.injEq, if_true, if_false, eq_self, Bool.false_eq_true, Bool.true_eq_false, Bool.not_true, Bool.not_false, Bool.not_not, List.getElem?_cons_zero, List.getElem?_cons_succ, List.set_cons_zero, List.set_cons_succ, List.length_cons, List.length_nil, List.cons_append, List.nil_append, reduceCtorEq, List.replicate_zero, List.replicate_succ, Nat.reduceAdd, Nat.reduceSub, decide_true, decide_false, intsOf_map', blsOf_map', strsOf_map', map_int_inj, map_str_inj, map_bool_inj, map_itD_inj, itD_iff, sh_int, sh_bool, sh_none, sh_itD, sh_nil, sh_ints, sh_its, eqv_int, eqv_bool, eqv_str, eqv_itD, eqv_ints, eqv_strs, eqv_its, eqv_nil, Nat.zero_le, and_assoc] at n ⊢; exact n
  | some ns =>
    obtain ⟨rfl, hs⟩ := setD_some h
    simp only [h, Option.isSome_some, wVar, wOwn, wC, wOp, wT, wChain, wAndT, wOrT, wNotT, wAnd, wOr, wNot, wIf, wNil, wCons, wDisp, wCall, wCall0, wNoPart, wPart, wSl, wRevL, wBlt, wItL, wItT, wItS, wRg1, wRg2, wEnum, wZip, wLR, wLR2, wYes, wM1, wFmt, wJoined, wIsi, wNeg, wNewD, wOwnCat, wPar2, wNext, wSeq, wNever, wSet, wNew, wAug, wExtend, wAppend, wPut, wFrz, wRet, wRetOwn, wRetN, wDrop, wIfS, wgName, wgTup, wUnp, wRaise, bodyEN, wLc, wFor, wSortSet, e_add_i, e_add_s, e_add_l, e_add_t, e_kadd_i, e_kadd_s, e_kadd_l, e_kadd_t, e_sub, e_kt, e_mul_i, e_mul_l, e_kmul_i, e_kmul_l, e_div, e_kdiv, e_mod, e_kmod, e_cmp, e_eq, e_ne, e_keq, e_is_n, e_is_b, e_isn_n, e_isn_b, e_non_n, e_non_l, e_non_t, e_non_i, e_non_s, e_non_b, e_non_x, e_in_l, e_in_t, e_ni_l, e_ni_t, e_kin_l, e_kin_t, e_kin_s, e_ix_l, e_ix_t, e_ix_s, e_kix_l, e_kix_t, e_kix_s, e_sl_l, e_sl_t, e_sl_s, e_len_l, e_len_t, e_len_s, e_klen_l, e_klen_t, e_klen_s, e_kany, e_list_l, e_list_t, e_tup_l, e_tup_t, e_sum, e_max, e_max2, e_min, e_kne, e_kne2, e_all, e_str, e_kstr, e_int, e_kint, e_split, e_ksplit, e_part, e_kpart, e_join, e_kjoin, e_pys0, e_pys1, e_sa0, e_sa1, e_wipe0, e_wipe1, e_js0, e_js1, e_ty_i, e_ty_b, e_ty_n, e_ty_s, e_ty_l, e_ty_t, e_isi_ii, e_isi_ib, e_isi_in, e_isi_is, e_isi_il, e_isi_it, e_isi_bi, e_isi_bb, e_isi_bn, e_isi_bs, e_isi_bl, e_isi_bt, e_isi_li, e_isi_lb, e_isi_ln, e_isi_ls, e_isi_ll, e_isi_lt, e_isi_ti, e_isi_tb, e_isi_tn, e_isi_ts, e_isi_tl, e_isi_tt, e_isi_si, e_isi_sb, e_isi_sn, e_isi_ss, e_isi_sl, e_isi_st, e_up, e_st0, e_st1, e_st2, exists_eq_left, exists_eq_left', exists_eq_right, exists_eq_right', exists_eq', exists_eq, true_and, and_true, and_self, false_and, and_false, exists_and_left, exists_and_right, exists_const, Option.some.injEq, Option.map_some, Option.map_none, Sl.is.injEq, Sl.own.injEq, D.py.injEq, D.ex.injEq, D.rf.injEq, PyData.int.injEq, PyData.bool.injEq, PyData.str.injEq, PyData.list.injEq, PyData.tuple.injEq, List.cons.injEq, if_true, if_false, eq_self, Bool.false_eq_true, Bool.true_eq_false, Bool.not_true, Bool.not_false, Bool.not_not, List.getElem?_cons_zero, List.getElem?_cons_succ, List.set_cons_zero, List.set_cons_succ, List.length_cons, List.length_nil, List.cons_append, List.nil_append, reduceCtorEq, List.replicate_zero, List.replicate_succ, Nat.reduceAdd, Nat.reduceSub, decide_true, decide_false, intsOf_map', blsOf_map', strsOf_map', map_int_inj, map_str_inj, map_bool_inj, map_itD_inj, itD_iff, sh_int, sh_bool, sh_none, sh_itD, sh_nil, sh_ints, sh_its, eqv_int, eqv_bool, eqv_str, eqv_itD, eqv_ints, eqv_strs, eqv_its, eqv_nil, Nat.zero_le, and_assoc, sp_plain_of] at n ⊢
    exact ⟨(setI_iff.mp hs).1, n⟩
def sp_tidy : Spec0 := fun ds N Nx => ∃ d, ds = [.py d] ∧ TFine d ∧ (match itemsD d with | some its => its.length ≤ 400 ∧ N (.py (.str (plainOf (setOf its)))) | none => Nx .text)
def w_tidy : WS Unit :=
  wSeq (wDrop (wCall0 sp_check_text (wCons (wVar 0) (wNil)))) (wRet (wCall0 sp_plain_of (wCons (wCall0 sp_set_of (wCons (wCall0 sp_items_in (wCons (wVar 0) (wNil))) (wNil))) (wNil))))
theorem law_tidy : ∀ ds θ N Nx, sp_tidy.up ds θ N Nx → w_tidy (bodyEN N Nx) (startD 1 ds) θ := by
  rintro ds θ N Nx ⟨d, rfl, fn, n⟩
  simp only [w_tidy, sp_check_text, sp_items_in, wVar, wOwn, wC, wOp, wT, wChain, wAndT, wOrT, wNotT, wAnd, wOr, wNot, wIf, wNil, wCons, wDisp, wCall, wCall0, wNoPart, wPart, wSl, wRevL, wBlt, wItL, wItT, wItS, wRg1, wRg2, wEnum, wZip, wLR, wLR2, wYes, wM1, wFmt, wJoined, wIsi, wNeg, wNewD, wOwnCat, wPar2, wNext, wSeq, wNever, wSet, wNew, wAug, wExtend, wAppend, wPut, wFrz, wRet, wRetOwn, wRetN, wDrop, wIfS, wgName, wgTup, wUnp, wRaise, bodyEN, wLc, wFor, wSortSet, e_add_i, e_add_s, e_add_l, e_add_t, e_kadd_i, e_kadd_s, e_kadd_l, e_kadd_t, e_sub, e_kt, e_mul_i, e_mul_l, e_kmul_i, e_kmul_l, e_div, e_kdiv, e_mod, e_kmod, e_cmp, e_eq, e_ne, e_keq, e_is_n, e_is_b, e_isn_n, e_isn_b, e_non_n, e_non_l, e_non_t, e_non_i, e_non_s, e_non_b, e_non_x, e_in_l, e_in_t, e_ni_l, e_ni_t, e_kin_l, e_kin_t, e_kin_s, e_ix_l, e_ix_t, e_ix_s, e_kix_l, e_kix_t, e_kix_s, e_sl_l, e_sl_t, e_sl_s, e_len_l, e_len_t, e_len_s, e_klen_l, e_klen_t, e_klen_s, e_kany, e_list_l, e_list_t, e_tup_l, e_tup_t, e_sum, e_max, e_max2, e_min, e_kne, e_kne2, e_all, e_str, e_kstr, e_int, e_kint, e_split, e_ksplit, e_part, e_kpart, e_join, e_kjoin, e_pys0, e_pys1, e_sa0, e_sa1, e_wipe0, e_wipe1, e_js0, e_js1, e_ty_i, e_ty_b, e_ty_n, e_ty_s, e_ty_l, e_ty_t, e_isi_ii, e_isi_ib, e_isi_in, e_isi_is, e_isi_il, e_isi_it, e_isi_bi, e_isi_bb, e_isi_bn, e_isi_bs, e_isi_bl, e_isi_bt, e_isi_li, e_isi_lb, e_isi_ln, e_isi_ls, e_isi_ll, e_isi_lt, e_isi_ti, e_isi_tb, e_isi_tn, e_isi_ts, e_isi_tl, e_isi_tt, e_isi_si, e_isi_sb, e_isi_sn, e_isi_ss, e_isi_sl, e_isi_st, e_up, e_st0, e_st1, e_st2, exists_eq_left, exists_eq_left', exists_eq_right, exists_eq_right', exists_eq', exists_eq, true_and, and_true, and_self, false_and, and_false, exists_and_left, exists_and_right, exists_const, Option.some.injEq, Option.map_some, Option.map_none, Sl.is.injEq, Sl.own.injEq, D.py.injEq, D.ex.injEq, D.rf.injEq, PyData.int.injEq, PyData.bool.injEq, PyData.str.injEq, PyData.list.injEq, PyData.tuple.injEq, List.cons.injEq, if_true, if_false, eq_self, Bool.false_eq_true, Bool.true_eq_false, Bool.not_true, Bool.not_false, Bool.not_not, List.getElem?_cons_zero, List.getElem?_cons_succ, List.set_cons_zero, List.set_cons_succ, List.length_cons, List.length_nil, List.cons_append, List.nil_append, reduceCtorEq, List.replicate_zero, List.replicate_succ, Nat.reduceAdd, Nat.reduceSub, decide_true, decide_false, intsOf_map', blsOf_map', strsOf_map', map_int_inj, map_str_inj, map_bool_inj, map_itD_inj, itD_iff, sh_int, sh_bool, sh_none, sh_itD, sh_nil, sh_ints, sh_its, eqv_int, eqv_bool, eqv_str, eqv_itD, eqv_ints, eqv_strs, eqv_its, eqv_nil, Nat.zero_le, and_assoc]
  refine ⟨fn, ?_⟩
  cases h : itemsD d with
  | none => simp only [h, wVar, wOwn, wC, wOp, wT, wChain, wAndT, wOrT, wNotT, wAnd, wOr, wNot, wIf, wNil, wCons, wDisp, wCall, wCall0, wNoPart, wPart, wSl, wRevL, wBlt, wItL, wItT, wItS, wRg1, wRg2, wEnum, wZip, wLR, wLR2, wYes, wM1, wFmt, wJoined, wIsi, wNeg, wNewD, wOwnCat, wPar2, wNext, wSeq, wNever, wSet, wNew, wAug, wExtend, wAppend, wPut, wFrz, wRet, wRetOwn, wRetN, wDrop, wIfS, wgName, wgTup, wUnp, wRaise, bodyEN, wLc, wFor, wSortSet, e_add_i, e_add_s, e_add_l, e_add_t, e_kadd_i, e_kadd_s, e_kadd_l, e_kadd_t, e_sub, e_kt, e_mul_i, e_mul_l, e_kmul_i, e_kmul_l, e_div, e_kdiv, e_mod, e_kmod, e_cmp, e_eq, e_ne, e_keq, e_is_n, e_is_b, e_isn_n, e_isn_b, e_non_n, e_non_l, e_non_t, e_non_i, e_non_s, e_non_b, e_non_x, e_in_l, e_in_t, e_ni_l, e_ni_t, e_kin_l, e_kin_t, e_kin_s, e_ix_l, e_ix_t, e_ix_s, e_kix_l, e_kix_t, e_kix_s, e_sl_l, e_sl_t, e_sl_s, e_len_l, e_len_t, e_len_s, e_klen_l, e_klen_t, e_klen_s, e_kany, e_list_l, e_list_t, e_tup_l, e_tup_t, e_sum, e_max, e_max2, e_min, e_kne, e_kne2, e_all, e_str, e_kstr, e_int, e_kint, e_split, e_ksplit, e_part, e_kpart, e_join, e_kjoin, e_pys0, e_pys1, e_sa0, e_sa1, e_wipe0, e_wipe1, e_js0, e_js1, e_ty_i, e_ty_b, e_ty_n, e_ty_s, e_ty_l, e_ty_t, e_isi_ii, e_isi_ib, e_isi_in, e_isi_is, e_isi_il, e_isi_it, e_isi_bi, e_isi_bb, e_isi_bn, e_isi_bs, e_isi_bl, e_isi_bt, e_isi_li, e_isi_lb, e_isi_ln, e_isi_ls, e_isi_ll, e_isi_lt, e_isi_ti, e_isi_tb, e_isi_tn, e_isi_ts, e_isi_tl, e_isi_tt, e_isi_si, e_isi_sb, e_isi_sn, e_isi_ss, e_isi_sl, e_isi_st, e_up, e_st0, e_st1, e_st2, exists_eq_left, exists_eq_left', exists_eq_right, exists_eq_right', exists_eq', exists_eq, true_and, and_true, and_self, false_and, and_false, exists_and_left, exists_and_right, exists_const, Option.some.injEq, Option.map_some, Option.map_none, Sl.is.injEq, Sl.own.injEq, D.py.injEq, D.ex.injEq, D.rf.injEq, PyData.int.injEq, PyData.bool.injEq, PyData.str.injEq, PyData.list.injEq, PyData.tuple.injEq, List.cons.injEq, if_true, if_false, eq_self, Bool.false_eq_true, Bool.true_eq_false, Bool.not_true, Bool.not_false, Bool.not_not, List.getElem?_cons_zero, List.getElem?_cons_succ, List.set_cons_zero, List.set_cons_succ, List.length_cons, List.length_nil, List.cons_append, List.nil_append, reduceCtorEq, List.replicate_zero, List.replicate_succ, Nat.reduceAdd, Nat.reduceSub, decide_true, decide_false, intsOf_map', blsOf_map', strsOf_map', map_int_inj, map_str_inj, map_bool_inj, map_itD_inj, itD_iff, sh_int, sh_bool, sh_none, sh_itD, sh_nil, sh_ints, sh_its, eqv_int, eqv_bool, eqv_str, eqv_itD, eqv_ints, eqv_strs, eqv_its, eqv_nil, Nat.zero_le, and_assoc] at n ⊢; exact n
  | some its =>
    simp only [h, wVar, wOwn, wC, wOp, wT, wChain, wAndT, wOrT, wNotT, wAnd, wOr, wNot, wIf, wNil, wCons, wDisp, wCall, wCall0, wNoPart, wPart, wSl, wRevL, wBlt, wItL, wItT, wItS, wRg1, wRg2, wEnum, wZip, wLR, wLR2, wYes, wM1, wFmt, wJoined, wIsi, wNeg, wNewD, wOwnCat, wPar2, wNext, wSeq, wNever, wSet, wNew, wAug, wExtend, wAppend, wPut, wFrz, wRet, wRetOwn, wRetN, wDrop, wIfS, wgName, wgTup, wUnp, wRaise, bodyEN, wLc, wFor, wSortSet, e_add_i, e_add_s, e_add_l, e_add_t, e_kadd_i, e_kadd_s, e_kadd_l, e_kadd_t, e_sub, e_kt, e_mul_i, e_mul_l, e_kmul_i, e_kmul_l, e_div, e_kdiv, e_mod, e_kmod, e_cmp, e_eq, e_ne, e_keq, e_is_n, e_is_b, e_isn_n, e_isn_b, e_non_n, e_non_l, e_non_t, e_non_i, e_non_s, e_non_b, e_non_x, e_in_l, e_in_t, e_ni_l, e_ni_t, e_kin_l, e_kin_t, e_kin_s, e_ix_l, e_ix_t, e_ix_s, e_kix_l, e_kix_t, e_kix_s, e_sl_l, e_sl_t, e_sl_s, e_len_l, e_len_t, e_len_s, e_klen_l, e_klen_t, e_klen_s, e_kany, e_list_l, e_list_t, e_tup_l, e_tup_t, e_sum, e_max, e_max2, e_min, e_kne, e_kne2, e_all, e_str, e_kstr, e_int, e_kint, e_split, e_ksplit, e_part, e_kpart, e_join, e_kjoin, e_pys0, e_pys1, e_sa0, e_sa1, e_wipe0, e_wipe1, e_js0, e_js1, e_ty_i, e_ty_b, e_ty_n, e_ty_s, e_ty_l, e_ty_t, e_isi_ii, e_isi_ib, e_isi_in, e_isi_is, e_isi_il, e_isi_it, e_isi_bi, e_isi_bb, e_isi_bn, e_isi_bs, e_isi_bl, e_isi_bt, e_isi_li, e_isi_lb, e_isi_ln, e_isi_ls, e_isi_ll, e_isi_lt, e_isi_ti, e_isi_tb, e_isi_tn, e_isi_ts, e_isi_tl, e_isi_tt, e_isi_si, e_isi_sb, e_isi_sn, e_isi_ss, e_isi_sl, e_isi_st, e_up, e_st0, e_st1, e_st2, exists_eq_left, exists_eq_left', exists_eq_right, exists_eq_right', exists_eq', exists_eq, true_and, and_true, and_self, false_and, and_false, exists_and_left, exists_and_right, exists_const, Option.some.injEq, Option.map_some, Option.map_none, Sl.is.injEq, Sl.own.injEq, D.py.injEq, D.ex.injEq, D.rf.injEq, PyData.int.injEq, PyData.bool.injEq, PyData.str.injEq, PyData.list.injEq, PyData.tuple.injEq, List.cons.injEq, if_true, if_false, eq_self, Bool.false_eq_true, Bool.true_eq_false, Bool.not_true, Bool.not_false, Bool.not_not, List.getElem?_cons_zero, List.getElem?_cons_succ, List.set_cons_zero, List.set_cons_succ, List.length_cons, List.length_nil, List.cons_append, List.nil_append, reduceCtorEq, List.replicate_zero, List.replicate_succ, Nat.reduceAdd, Nat.reduceSub, decide_true, decide_false, intsOf_map', blsOf_map', strsOf_map', map_int_inj, map_str_inj, map_bool_inj, map_itD_inj, itD_iff, sh_int, sh_bool, sh_none, sh_itD, sh_nil, sh_ints, sh_its, eqv_int, eqv_bool, eqv_str, eqv_itD, eqv_ints, eqv_strs, eqv_its, eqv_nil, Nat.zero_le, and_assoc, optL_some, sp_set_of, sp_plain_of] at n ⊢
    exact ⟨fn, items_ok h, n.1, setOf_subs its, n.2⟩
theorem join_bound {its : List Itm} (h : its.all itemOk = true) : PyData.strOk (Txt.join "," (its.map textOf)) = true ∧ (Txt.join "," (its.map textOf)).length ≤ 8 * its.length := by
  have e := TL.tl_join "," (its.map textOf)
  have hj : Txt.join "," (its.map textOf) = Str.join "," (its.map textOf) := TL.join_eq _ _
  have key : ∀ ls : List (List Nat), (∀ l ∈ ls, l.length ≤ 7 ∧ ∀ c ∈ l, c < 0x110000) → (TL.joinL (TL.tl ",") ls).length ≤ 8 * ls.length ∧ ∀ c ∈ TL.joinL (TL.tl ",") ls, c < 0x110000 := by
    have hc : TL.tl "," = [44] := by decide +kernel
    rw [hc]
    intro ls
    induction ls with
    | nil => intro _; exact ⟨by simp [TL.joinL], fun c h => by cases h⟩
    | cons p r ih =>
      intro h
      obtain ⟨p1, p2⟩ := h p List.mem_cons_self
      have ih := ih fun l hl => h l (List.mem_cons_of_mem _ hl)
      cases r with
      | nil => exact ⟨by simp [TL.joinL]; omega, p2⟩
      | cons q r =>
        show (p ++ ([44] ++ TL.joinL [44] (q :: r))).length ≤ _ ∧ ∀ c ∈ p ++ ([44] ++ TL.joinL [44] (q :: r)), _
        refine ⟨?_, fun c hc => ?_⟩
        · rw [List.length_append, List.length_append]
          have := ih.1
          simp at this ⊢
          omega
        · rcases List.mem_append.mp hc with hc | hc
          · exact p2 c hc
          · rcases List.mem_append.mp hc with hc | hc
            · rw [List.mem_singleton.mp hc]
              decide
            · exact ih.2 c hc
  have k := key ((its.map textOf).map TL.tl) fun l hl => by
    obtain ⟨z, hz, rfl⟩ := List.mem_map.mp hl
    obtain ⟨q, hq, rfl⟩ := List.mem_map.mp hz
    obtain ⟨t1, t2, _⟩ := item_texts q (item_mem.mp (List.all_eq_true.mp h q hq))
    exact ⟨by rw [← TL.len_tl]; exact t2, strOk_iff.mp t1⟩
  rw [← e] at k
  rw [hj]
  refine ⟨strOk_iff.mpr k.2, ?_⟩
  rw [TL.len_tl]
  have := k.1
  simp only [List.length_map] at this
  exact this
theorem TOk.join {its : List Itm} (h : its.all itemOk = true) (hl : its.length ≤ 1000) : TOk (Txt.join "," (its.map textOf)) := ⟨(join_bound h).1, by have := (join_bound h).2; omega⟩
theorem tok_plain {ns : List Int} (h : ns ∈ subs ten) : TOk (plainOf ns) := by
  obtain ⟨r1, r2⟩ := runs_all ns h
  exact TOk.join r1 (by omega)
def sp_is_plain : Spec0 := fun ds N Nx => ∃ d, ds = [.py d] ∧ TFine d ∧ (match itemsD d with | some its => its.length ≤ 400 ∧ ∃ z, d = .str z ∧ N (.py (.bool (decide (plainOf (setOf its) = z)))) | none => Nx .text)
def w_is_plain : WS Unit :=
  wSeq (wDrop (wCall0 sp_check_text (wCons (wVar 0) (wNil)))) (wRet (wOp fEq kEq (wCall0 sp_plain_of (wCons (wCall0 sp_set_of (wCons (wCall0 sp_items_in (wCons (wVar 0) (wNil))) (wNil))) (wNil))) (wVar 0)))
theorem law_is_plain : ∀ ds θ N Nx, sp_is_plain.up ds θ N Nx → w_is_plain (bodyEN N Nx) (startD 1 ds) θ := by
  rintro ds θ N Nx ⟨d, rfl, fn, n⟩
  simp only [w_is_plain, sp_check_text, sp_items_in, wVar, wOwn, wC, wOp, wT, wChain, wAndT, wOrT, wNotT, wAnd, wOr, wNot, wIf, wNil, wCons, wDisp, wCall, wCall0, wNoPart, wPart, wSl, wRevL, wBlt, wItL, wItT, wItS, wRg1, wRg2, wEnum, wZip, wLR, wLR2, wYes, wM1, wFmt, wJoined, wIsi, wNeg, wNewD, wOwnCat, wPar2, wNext, wSeq, wNever, wSet, wNew, wAug, wExtend, wAppend, wPut, wFrz, wRet, wRetOwn, wRetN, wDrop, wIfS, wgName, wgTup, wUnp, wRaise, bodyEN, wLc, wFor, wSortSet, e_add_i, e_add_s, e_add_l, e_add_t, e_kadd_i, e_kadd_s, e_kadd_l, e_kadd_t, e_sub, e_kt, e_mul_i, e_mul_l, e_kmul_i, e_kmul_l, e_div, e_kdiv, e_mod, e_kmod, e_cmp, e_eq, e_ne, e_keq, e_is_n, e_is_b, e_isn_n, e_isn_b, e_non_n, e_non_l, e_non_t, e_non_i, e_non_s, e_non_b, e_non_x, e_in_l, e_in_t, e_ni_l, e_ni_t, e_kin_l, e_kin_t, e_kin_s, e_ix_l, e_ix_t, e_ix_s, e_kix_l, e_kix_t, e_kix_s, e_sl_l, e_sl_t, e_sl_s, e_len_l, e_len_t, e_len_s, e_klen_l, e_klen_t, e_klen_s, e_kany, e_list_l, e_list_t, e_tup_l, e_tup_t, e_sum, e_max, e_max2, e_min, e_kne, e_kne2, e_all, e_str, e_kstr, e_int, e_kint, e_split, e_ksplit, e_part, e_kpart, e_join, e_kjoin, e_pys0, e_pys1, e_sa0, e_sa1, e_wipe0, e_wipe1, e_js0, e_js1, e_ty_i, e_ty_b, e_ty_n, e_ty_s, e_ty_l, e_ty_t, e_isi_ii, e_isi_ib, e_isi_in, e_isi_is, e_isi_il, e_isi_it, e_isi_bi, e_isi_bb, e_isi_bn, e_isi_bs, e_isi_bl, e_isi_bt, e_isi_li, e_isi_lb, e_isi_ln, e_isi_ls, e_isi_ll, e_isi_lt, e_isi_ti, e_isi_tb, e_isi_tn, e_isi_ts, e_isi_tl, e_isi_tt, e_isi_si, e_isi_sb, e_isi_sn, e_isi_ss, e_isi_sl, e_isi_st, e_up, e_st0, e_st1, e_st2, exists_eq_left, exists_eq_left', exists_eq_right, exists_eq_right', exists_eq', exists_eq, true_and, and_true, and_self, false_and, and_false, exists_and_left, exists_and_right, exists_const, Option.some.injEq, Option.map_some, Option.map_none, Sl.is.injEq, Sl.own.injEq, D.py.injEq, D.ex.injEq, D.rf.injEq, PyData.int.injEq, PyData.bool.injEq, PyData.str.injEq, PyData.list.injEq, PyData.tuple.injEq, List.cons.injEq, if_true, if_false, eq_self, Bool.false_eq_true, Bool.true_eq_false, Bool.not_true, Bool.not_false, Bool.not_not, List.getElem?_cons_zero, List.getElem?_cons_succ, List.set_cons_zero, List.set_cons_succ, List.length_cons, List.length_nil, List.cons_append, List.nil_append, reduceCtorEq, List.replicate_zero, List.replicate_succ, Nat.reduceAdd, Nat.reduceSub, decide_true, decide_false, intsOf_map', blsOf_map', strsOf_map', map_int_inj, map_str_inj, map_bool_inj, map_itD_inj, itD_iff, sh_int, sh_bool, sh_none, sh_itD, sh_nil, sh_ints, sh_its, eqv_int, eqv_bool, eqv_str, eqv_itD, eqv_ints, eqv_strs, eqv_its, eqv_nil, Nat.zero_le, and_assoc]
  refine ⟨fn, ?_⟩
  cases h : itemsD d with
  | none => simp only [h, wVar, wOwn, wC, wOp, wT, wChain, wAndT, wOrT, wNotT, wAnd, wOr, wNot, wIf, wNil, wCons, wDisp, wCall, wCall0, wNoPart, wPart, wSl, wRevL, wBlt, wItL, wItT, wItS, wRg1, wRg2, wEnum, wZip, wLR, wLR2, wYes, wM1, wFmt, wJoined, wIsi, wNeg, wNewD, wOwnCat, wPar2, wNext, wSeq, wNever, wSet, wNew, wAug, wExtend, wAppend, wPut, wFrz, wRet, wRetOwn, wRetN, wDrop, wIfS, wgName, wgTup, wUnp, wRaise, bodyEN, wLc, wFor, wSortSet, e_add_i, e_add_s, e_add_l, e_add_t, e_kadd_i, e_kadd_s, e_kadd_l, e_kadd_t, e_sub, e_kt, e_mul_i, e_mul_l, e_kmul_i, e_kmul_l, e_div, e_kdiv, e_mod, e_kmod, e_cmp, e_eq, e_ne, e_keq, e_is_n, e_is_b, e_isn_n, e_isn_b, e_non_n, e_non_l, e_non_t, e_non_i, e_non_s, e_non_b, e_non_x, e_in_l, e_in_t, e_ni_l, e_ni_t, e_kin_l, e_kin_t, e_kin_s, e_ix_l, e_ix_t, e_ix_s, e_kix_l, e_kix_t, e_kix_s, e_sl_l, e_sl_t, e_sl_s, e_len_l, e_len_t, e_len_s, e_klen_l, e_klen_t, e_klen_s, e_kany, e_list_l, e_list_t, e_tup_l, e_tup_t, e_sum, e_max, e_max2, e_min, e_kne, e_kne2, e_all, e_str, e_kstr, e_int, e_kint, e_split, e_ksplit, e_part, e_kpart, e_join, e_kjoin, e_pys0, e_pys1, e_sa0, e_sa1, e_wipe0, e_wipe1, e_js0, e_js1, e_ty_i, e_ty_b, e_ty_n, e_ty_s, e_ty_l, e_ty_t, e_isi_ii, e_isi_ib, e_isi_in, e_isi_is, e_isi_il, e_isi_it, e_isi_bi, e_isi_bb, e_isi_bn, e_isi_bs, e_isi_bl, e_isi_bt, e_isi_li, e_isi_lb, e_isi_ln, e_isi_ls, e_isi_ll, e_isi_lt, e_isi_ti, e_isi_tb, e_isi_tn, e_isi_ts, e_isi_tl, e_isi_tt, e_isi_si, e_isi_sb, e_isi_sn, e_isi_ss, e_isi_sl, e_isi_st, e_up, e_st0, e_st1, e_st2, exists_eq_left, exists_eq_left', exists_eq_right, exists_eq_right', exists_eq', exists_eq, true_and, and_true, and_self, false_and, and_false, exists_and_left, exists_and_right, exists_const, Option.some.injEq, Option.map_some, Option.map_none, Sl.is.injEq, Sl.own.injEq, D.py.injEq, D.ex.injEq, D.rf.injEq, PyData.int.injEq, PyData.bool.injEq, PyData.str.injEq, PyData.list.injEq, PyData.tuple.injEq, List.cons.injEq, if_true, if_false, eq_self, Bool.false_eq_true, Bool.true_eq_false, Bool.not_true, Bool.not_false, Bool.not_not, List.getElem?_cons_zero, List.getElem?_cons_succ, List.set_cons_zero, List.set_cons_succ, List.length_cons, List.length_nil, List.cons_append, List.nil_append, reduceCtorEq, List.replicate_zero, List.replicate_succ, Nat.reduceAdd, Nat.reduceSub, decide_true, decide_false, intsOf_map', blsOf_map', strsOf_map', map_int_inj, map_str_inj, map_bool_inj, map_itD_inj, itD_iff, sh_int, sh_bool, sh_none, sh_itD, sh_nil, sh_ints, sh_its, eqv_int, eqv_bool, eqv_str, eqv_itD, eqv_ints, eqv_strs, eqv_its, eqv_nil, Nat.zero_le, and_assoc] at n ⊢; exact n
  | some its =>
    simp only [h] at n
    obtain ⟨n1, z, rfl, n2⟩ := n
    have ok : TOk z := fn
    simp only [h, wVar, wOwn, wC, wOp, wT, wChain, wAndT, wOrT, wNotT, wAnd, wOr, wNot, wIf, wNil, wCons, wDisp, wCall, wCall0, wNoPart, wPart, wSl, wRevL, wBlt, wItL, wItT, wItS, wRg1, wRg2, wEnum, wZip, wLR, wLR2, wYes, wM1, wFmt, wJoined, wIsi, wNeg, wNewD, wOwnCat, wPar2, wNext, wSeq, wNever, wSet, wNew, wAug, wExtend, wAppend, wPut, wFrz, wRet, wRetOwn, wRetN, wDrop, wIfS, wgName, wgTup, wUnp, wRaise, bodyEN, wLc, wFor, wSortSet, e_add_i, e_add_s, e_add_l, e_add_t, e_kadd_i, e_kadd_s, e_kadd_l, e_kadd_t, e_sub, e_kt, e_mul_i, e_mul_l, e_kmul_i, e_kmul_l, e_div, e_kdiv, e_mod, e_kmod, e_cmp, e_eq, e_ne, e_keq, e_is_n, e_is_b, e_isn_n, e_isn_b, e_non_n, e_non_l, e_non_t, e_non_i, e_non_s, e_non_b, e_non_x, e_in_l, e_in_t, e_ni_l, e_ni_t, e_kin_l, e_kin_t, e_kin_s, e_ix_l, e_ix_t, e_ix_s, e_kix_l, e_kix_t, e_kix_s, e_sl_l, e_sl_t, e_sl_s, e_len_l, e_len_t, e_len_s, e_klen_l, e_klen_t, e_klen_s, e_kany, e_list_l, e_list_t, e_tup_l, e_tup_t, e_sum, e_max, e_max2, e_min, e_kne, e_kne2, e_all, e_str, e_kstr, e_int, e_kint, e_split, e_ksplit, e_part, e_kpart, e_join, e_kjoin, e_pys0, e_pys1, e_sa0, e_sa1, e_wipe0, e_wipe1, e_js0, e_js1, e_ty_i, e_ty_b, e_ty_n, e_ty_s, e_ty_l, e_ty_t, e_isi_ii, e_isi_ib, e_isi_in, e_isi_is, e_isi_il, e_isi_it, e_isi_bi, e_isi_bb, e_isi_bn, e_isi_bs, e_isi_bl, e_isi_bt, e_isi_li, e_isi_lb, e_isi_ln, e_isi_ls, e_isi_ll, e_isi_lt, e_isi_ti, e_isi_tb, e_isi_tn, e_isi_ts, e_isi_tl, e_isi_tt, e_isi_si, e_isi_sb, e_isi_sn, e_isi_ss, e_isi_sl, e_isi_st, e_up, e_st0, e_st1, e_st2, exists_eq_left, exists_eq_left', exists_eq_right, exists_eq_right', exists_eq', exists_eq, true_and, and_true, and_self, false_and, and_false, exists_and_left, exists_and_right, exists_const, Option.some.injEq, Option.map_some, Option.map_none, Sl.is.injEq, Sl.own.injEq, D.py.injEq, D.ex.injEq, D.rf.injEq, PyData.int.injEq, PyData.bool.injEq, PyData.str.injEq, PyData.list.injEq, PyData.tuple.injEq, List.cons.injEq, if_true, if_false, eq_self, Bool.false_eq_true, Bool.true_eq_false, Bool.not_true, Bool.not_false, Bool.not_not, List.getElem?_cons_zero, List.getElem?_cons_succ, List.set_cons_zero, List.set_cons_succ, List.length_cons, List.length_nil, List.cons_append, List.nil_append, reduceCtorEq, List.replicate_zero, List.replicate_succ, Nat.reduceAdd, Nat.reduceSub, decide_true, decide_false, intsOf_map', blsOf_map', strsOf_map', map_int_inj, map_str_inj, map_bool_inj, map_itD_inj, itD_iff, sh_int, sh_bool, sh_none, sh_itD, sh_nil, sh_ints, sh_its, eqv_int, eqv_bool, eqv_str, eqv_itD, eqv_ints, eqv_strs, eqv_its, eqv_nil, Nat.zero_le, and_assoc, optL_some, sp_set_of, sp_plain_of, ok.sh, (tok_plain (setOf_subs its)).sh]
    exact ⟨fn, items_ok h, n1, setOf_subs its, n2⟩
def sp_join_texts : Spec0 := fun ds N Nx => ∃ d e, ds = [.py d, .py e] ∧ TFine d ∧ TFine e ∧ (match itemsD d with
  | some its => (match itemsD e with | some jts => its.length + jts.length ≤ 400 ∧ N (.py (.str (plainOf (setOf (its ++ jts))))) | none => Nx .text)
  | none => Nx .text)
def w_join_texts : WS Unit :=
  wSeq (wDrop (wCall0 sp_check_text (wCons (wVar 0) (wNil)))) (wSeq (wDrop (wCall0 sp_check_text (wCons (wVar 1) (wNil)))) (wRet (wCall0 sp_plain_of (wCons (wCall0 sp_set_of (wCons (wOp fAdd kAdd (wCall0 sp_items_in (wCons (wVar 0) (wNil))) (wCall0 sp_items_in (wCons (wVar 1) (wNil)))) (wNil))) (wNil)))))
theorem law_join_texts : ∀ ds θ N Nx, sp_join_texts.up ds θ N Nx → w_join_texts (bodyEN N Nx) (startD 2 ds) θ := by
  rintro ds θ N Nx ⟨d, e, rfl, fn, fe, n⟩
  simp only [w_join_texts, sp_check_text, sp_items_in, wVar, wOwn, wC, wOp, wT, wChain, wAndT, wOrT, wNotT, wAnd, wOr, wNot, wIf, wNil, wCons, wDisp, wCall, wCall0, wNoPart, wPart, wSl, wRevL, wBlt, wItL, wItT, wItS, wRg1, wRg2, wEnum, wZip, wLR, wLR2, wYes, wM1, wFmt, wJoined, wIsi, wNeg, wNewD, wOwnCat, wPar2, wNext, wSeq, wNever, wSet, wNew, wAug, wExtend, wAppend, wPut, wFrz, wRet, wRetOwn, wRetN, wDrop, wIfS, wgName, wgTup, wUnp, wRaise, bodyEN, wLc, wFor, wSortSet, e_add_i, e_add_s, e_add_l, e_add_t, e_kadd_i, e_kadd_s, e_kadd_l, e_kadd_t, e_sub, e_kt, e_mul_i, e_mul_l, e_kmul_i, e_kmul_l, e_div, e_kdiv, e_mod, e_kmod, e_cmp, e_eq, e_ne, e_keq, e_is_n, e_is_b, e_isn_n, e_isn_b, e_non_n, e_non_l, e_non_t, e_non_i, e_non_s, e_non_b, e_non_x, e_in_l, e_in_t, e_ni_l, e_ni_t, e_kin_l, e_kin_t, e_kin_s, e_ix_l, e_ix_t, e_ix_s, e_kix_l, e_kix_t, e_kix_s, e_sl_l, e_sl_t, e_sl_s, e_len_l, e_len_t, e_len_s, e_klen_l, e_klen_t, e_klen_s, e_kany, e_list_l, e_list_t, e_tup_l, e_tup_t, e_sum, e_max, e_max2, e_min, e_kne, e_kne2, e_all, e_str, e_kstr, e_int, e_kint, e_split, e_ksplit, e_part, e_kpart, e_join, e_kjoin, e_pys0, e_pys1, e_sa0, e_sa1, e_wipe0, e_wipe1, e_js0, e_js1, e_ty_i, e_ty_b, e_ty_n, e_ty_s, e_ty_l, e_ty_t, e_isi_ii, e_isi_ib, e_isi_in, e_isi_is, e_isi_il, e_isi_it, e_isi_bi, e_isi_bb, e_isi_bn, e_isi_bs, e_isi_bl, e_isi_bt, e_isi_li, e_isi_lb, e_isi_ln, e_isi_ls, e_isi_ll, e_isi_lt, e_isi_ti, e_isi_tb, e_isi_tn, e_isi_ts, e_isi_tl, e_isi_tt, e_isi_si, e_isi_sb, e_isi_sn, e_isi_ss, e_isi_sl, e_isi_st, e_up, e_st0, e_st1, e_st2, exists_eq_left, exists_eq_left', exists_eq_right, exists_eq_right', exists_eq', exists_eq, true_and, and_true, and_self, false_and, and_false, exists_and_left, exists_and_right, exists_const, Option.some.injEq, Option.map_some, Option.map_none, Sl.is.injEq, Sl.own.injEq, D.py.injEq, D.ex.injEq, D.rf.injEq, PyData.int.injEq, PyData.bool.injEq, PyData.str.injEq, PyData.list.injEq, PyData.tuple.injEq, List.cons.injEq, if_true, if_false, eq_self, Bool.false_eq_true, Bool.true_eq_false, Bool.not_true, Bool.not_false, Bool.not_not, List.getElem?_cons_zero, List.getElem?_cons_succ, List.set_cons_zero, List.set_cons_succ, List.length_cons, List.length_nil, List.cons_append, List.nil_append, reduceCtorEq, List.replicate_zero, List.replicate_succ, Nat.reduceAdd, Nat.reduceSub, decide_true, decide_false, intsOf_map', blsOf_map', strsOf_map', map_int_inj, map_str_inj, map_bool_inj, map_itD_inj, itD_iff, sh_int, sh_bool, sh_none, sh_itD, sh_nil, sh_ints, sh_its, eqv_int, eqv_bool, eqv_str, eqv_itD, eqv_ints, eqv_strs, eqv_its, eqv_nil, Nat.zero_le, and_assoc]
  refine ⟨fn, ?_⟩
  cases h : itemsD d with
  | none => simp only [h, wVar, wOwn, wC, wOp, wT, wChain, wAndT, wOrT, wNotT, wAnd, wOr, wNot, wIf, wNil, wCons, wDisp, wCall, wCall0, wNoPart, wPart, wSl, wRevL, wBlt, wItL, wItT, wItS, wRg1, wRg2, wEnum, wZip, wLR, wLR2, wYes, wM1, wFmt, wJoined, wIsi, wNeg, wNewD, wOwnCat, wPar2, wNext, wSeq, wNever, wSet, wNew, wAug, wExtend, wAppend, wPut, wFrz, wRet, wRetOwn, wRetN, wDrop, wIfS, wgName, wgTup, wUnp, wRaise, bodyEN, wLc, wFor, wSortSet, e_add_i, e_add_s, e_add_l, e_add_t, e_kadd_i, e_kadd_s, e_kadd_l, e_kadd_t, e_sub, e_kt, e_mul_i, e_mul_l, e_kmul_i, e_kmul_l, e_div, e_kdiv, e_mod, e_kmod, e_cmp, e_eq, e_ne, e_keq, e_is_n, e_is_b, e_isn_n, e_isn_b, e_non_n, e_non_l, e_non_t, e_non_i, e_non_s, e_non_b, e_non_x, e_in_l, e_in_t, e_ni_l, e_ni_t, e_kin_l, e_kin_t, e_kin_s, e_ix_l, e_ix_t, e_ix_s, e_kix_l, e_kix_t, e_kix_s, e_sl_l, e_sl_t, e_sl_s, e_len_l, e_len_t, e_len_s, e_klen_l, e_klen_t, e_klen_s, e_kany, e_list_l, e_list_t, e_tup_l, e_tup_t, e_sum, e_max, e_max2, e_min, e_kne, e_kne2, e_all, e_str, e_kstr, e_int, e_kint, e_split, e_ksplit, e_part, e_kpart, e_join, e_kjoin, e_pys0, e_pys1, e_sa0, e_sa1, e_wipe0, e_wipe1, e_js0, e_js1, e_ty_i, e_ty_b, e_ty_n, e_ty_s, e_ty_l, e_ty_t, e_isi_ii, e_isi_ib, e_isi_in, e_isi_is, e_isi_il, e_isi_it, e_isi_bi, e_isi_bb, e_isi_bn, e_isi_bs, e_isi_bl, e_isi_bt, e_isi_li, e_isi_lb, e_isi_ln, e_isi_ls, e_isi_ll, e_isi_lt, e_isi_ti, e_isi_tb, e_isi_tn, e_isi_ts, e_isi_tl, e_isi_tt, e_isi_si, e_isi_sb, e_isi_sn, e_isi_ss, e_isi_sl, e_isi_st, e_up, e_st0, e_st1, e_st2, exists_eq_left, exists_eq_left', exists_eq_right, exists_eq_right', exists_eq', exists_eq, true_and, and_true, and_self, false_and, and_false, exists_and_left, exists_and_right, exists_const, Option.some.injEq, Option.map_some, Option.map_none, Sl.is.injEq, Sl.own.injEq, D.py.injEq, D.ex.injEq, D.rf.injEq, PyData.int.injEq, PyData.bool.injEq, PyData.str.injEq, PyData.list.injEq, PyData.tuple.injEq, List.cons.injEq, if_true, if_false, eq_self, Bool.false_eq_true, Bool.true_eq_false, Bool.not_true, Bool.not_false, Bool.not_not, List.getElem?_cons_zero, List.getElem?_cons_succ, List.set_cons_zero, List.set_cons_succ, List.length_cons, List.length_nil, List.cons_append, List.nil_append, reduceCtorEq, List.replicate_zero, List.replicate_succ, Nat.reduceAdd, Nat.reduceSub, decide_true, decide_false, intsOf_map', blsOf_map', strsOf_map', map_int_inj, map_str_inj, map_bool_inj, map_itD_inj, itD_iff, sh_int, sh_bool, sh_none, sh_itD, sh_nil, sh_ints, sh_its, eqv_int, eqv_bool, eqv_str, eqv_itD, eqv_ints, eqv_strs, eqv_its, eqv_nil, Nat.zero_le, and_assoc] at n ⊢; exact n
  | some its =>
    simp only [h] at n ⊢
    refine ⟨fe, ?_⟩
    cases h2 : itemsD e with
    | none => simp only [h2, wVar, wOwn, wC, wOp, wT, wChain, wAndT, wOrT, wNotT, wAnd, wOr, wNot, wIf, wNil, wCons, wDisp, wCall, wCall0, wNoPart, wPart, wSl, wRevL, wBlt, wItL, wItT, wItS, wRg1, wRg2, wEnum, wZip, wLR, wLR2, wYes, wM1, wFmt, wJoined, wIsi, wNeg, wNewD, wOwnCat, wPar2, wNext, wSeq, wNever, wSet, wNew, wAug, wExtend, wAppend, wPut, wFrz, wRet, wRetOwn, wRetN, wDrop, wIfS, wgName, wgTup, wUnp, wRaise, bodyEN, wLc, wFor, wSortSet, e_add_i, e_add_s, e_add_l, e_add_t, e_kadd_i, e_kadd_s, e_kadd_l, e_kadd_t, e_sub, e_kt, e_mul_i, e_mul_l, e_kmul_i, e_kmul_l, e_div, e_kdiv, e_mod, e_kmod, e_cmp, e_eq, e_ne, e_keq, e_is_n, e_is_b, e_isn_n, e_isn_b, e_non_n, e_non_l, e_non_t, e_non_i, e_non_s, e_non_b, e_non_x, e_in_l, e_in_t, e_ni_l, e_ni_t, e_kin_l, e_kin_t, e_kin_s, e_ix_l, e_ix_t, e_ix_s, e_kix_l, e_kix_t, e_kix_s, e_sl_l, e_sl_t, e_sl_s, e_len_l, e_len_t, e_len_s, e_klen_l, e_klen_t, e_klen_s, e_kany, e_list_l, e_list_t, e_tup_l, e_tup_t, e_sum, e_max, e_max2, e_min, e_kne, e_kne2, e_all, e_str, e_kstr, e_int, e_kint, e_split, e_ksplit, e_part, e_kpart, e_join, e_kjoin, e_pys0, e_pys1, e_sa0, e_sa1, e_wipe0, e_wipe1, e_js0, e_js1, e_ty_i, e_ty_b, e_ty_n, e_ty_s, e_ty_l, e_ty_t, e_isi_ii, e_isi_ib, e_isi_in, e_isi_is, e_isi_il, e_isi_it, e_isi_bi, e_isi_bb, e_isi_bn, e_isi_bs, e_isi_bl, e_isi_bt, e_isi_li, e_isi_lb, e_isi_ln, e_isi_ls, e_isi_ll, e_isi_lt, e_isi_ti, e_isi_tb, e_isi_tn, e_isi_ts, e_isi_tl, e_isi_tt, e_isi_si, e_isi_sb, e_isi_sn, e_isi_ss, e_isi_sl, e_isi_st, e_up, e_st0, e_st1, e_st2, exists_eq_left, exists_eq_left', exists_eq_right, exists_eq_right', exists_eq', exists_eq, true_and, and_true, and_self, false_and, and_false, exists_and_left, exists_and_right, exists_const, Option.some.injEq, Option.map_some, Option.map_none, Sl.is.injEq, Sl.own.injEq, D.py.injEq, D.ex.injEq, D.rf.injEq, PyData.int.injEq, PyData.bool.injEq, PyData.str.injEq, PyData.list.injEq, PyData.tuple.injEq, List.cons.injEq, if_true, if_false, eq_self, Bool.false_eq_true, Bool.true_eq_false, Bool.not_true, Bool.not_false, Bool.not_not, List.getElem?_cons_zero, List.getElem?_cons_succ, List.set_cons_zero, List.set_cons_succ, List.length_cons, List.length_nil, List.cons_append, List.nil_append, reduceCtorEq, List.replicate_zero, List.replicate_succ, Nat.reduceAdd, Nat.reduceSub, decide_true, decide_false, intsOf_map', blsOf_map', strsOf_map', map_int_inj, map_str_inj, map_bool_inj, map_itD_inj, itD_iff, sh_int, sh_bool, sh_none, sh_itD, sh_nil, sh_ints, sh_its, eqv_int, eqv_bool, eqv_str, eqv_itD, eqv_ints, eqv_strs, eqv_its, eqv_nil, Nat.zero_le, and_assoc] at n ⊢; exact n
    | some jts =>
      simp only [h2, wVar, wOwn, wC, wOp, wT, wChain, wAndT, wOrT, wNotT, wAnd, wOr, wNot, wIf, wNil, wCons, wDisp, wCall, wCall0, wNoPart, wPart, wSl, wRevL, wBlt, wItL, wItT, wItS, wRg1, wRg2, wEnum, wZip, wLR, wLR2, wYes, wM1, wFmt, wJoined, wIsi, wNeg, wNewD, wOwnCat, wPar2, wNext, wSeq, wNever, wSet, wNew, wAug, wExtend, wAppend, wPut, wFrz, wRet, wRetOwn, wRetN, wDrop, wIfS, wgName, wgTup, wUnp, wRaise, bodyEN, wLc, wFor, wSortSet, e_add_i, e_add_s, e_add_l, e_add_t, e_kadd_i, e_kadd_s, e_kadd_l, e_kadd_t, e_sub, e_kt, e_mul_i, e_mul_l, e_kmul_i, e_kmul_l, e_div, e_kdiv, e_mod, e_kmod, e_cmp, e_eq, e_ne, e_keq, e_is_n, e_is_b, e_isn_n, e_isn_b, e_non_n, e_non_l, e_non_t, e_non_i, e_non_s, e_non_b, e_non_x, e_in_l, e_in_t, e_ni_l, e_ni_t, e_kin_l, e_kin_t, e_kin_s, e_ix_l, e_ix_t, e_ix_s, e_kix_l, e_kix_t, e_kix_s, e_sl_l, e_sl_t, e_sl_s, e_len_l, e_len_t, e_len_s, e_klen_l, e_klen_t, e_klen_s, e_kany, e_list_l, e_list_t, e_tup_l, e_tup_t, e_sum, e_max, e_max2, e_min, e_kne, e_kne2, e_all, e_str, e_kstr, e_int, e_kint, e_split, e_ksplit, e_part, e_kpart, e_join, e_kjoin, e_pys0, e_pys1, e_sa0, e_sa1, e_wipe0, e_wipe1, e_js0, e_js1, e_ty_i, e_ty_b, e_ty_n, e_ty_s, e_ty_l, e_ty_t, e_isi_ii, e_isi_ib, e_isi_in, e_isi_is, e_isi_il, e_isi_it, e_isi_bi, e_isi_bb, e_isi_bn, e_isi_bs, e_isi_bl, e_isi_bt, e_isi_li, e_isi_lb, e_isi_ln, e_isi_ls, e_isi_ll, e_isi_lt, e_isi_ti, e_isi_tb, e_isi_tn, e_isi_ts, e_isi_tl, e_isi_tt, e_isi_si, e_isi_sb, e_isi_sn, e_isi_ss, e_isi_sl, e_isi_st, e_up, e_st0, e_st1, e_st2, exists_eq_left, exists_eq_left', exists_eq_right, exists_eq_right', exists_eq', exists_eq, true_and, and_true, and_self, false_and, and_false, exists_and_left, exists_and_right, exists_const, Option.some.injEq, Option.map_some, Option.map_none, Sl.is.injEq, Sl.own.injEq, D.py.injEq, D.ex.injEq, D.rf.injEq, PyData.int.injEq, PyData.bool.injEq, PyData.str.injEq, PyData.list.injEq, PyData.tuple.injEq, List.cons.injEq, if_true, if_false, eq_self, Bool.false_eq_true, Bool.true_eq_false, Bool.not_true, Bool.not_false, Bool.not_not, List.getElem?_cons_zero, List.getElem?_cons_succ, List.set_cons_zero, List.set_cons_succ, List.length_cons, List.length_nil, List.cons_append, List.nil_append, reduceCtorEq, List.replicate_zero, List.replicate_succ, Nat.reduceAdd, Nat.reduceSub, decide_true, decide_false, intsOf_map', blsOf_map', strsOf_map', map_int_inj, map_str_inj, map_bool_inj, map_itD_inj, itD_iff, sh_int, sh_bool, sh_none, sh_itD, sh_nil, sh_ints, sh_its, eqv_int, eqv_bool, eqv_str, eqv_itD, eqv_ints, eqv_strs, eqv_its, eqv_nil, Nat.zero_le, and_assoc, optL_some, sp_set_of, sp_plain_of, ← List.map_append] at n ⊢
      refine ⟨fn, fe, ?_, ?_⟩
      · rw [List.length_map, List.length_map]
        exact le_line (by omega)
      · exact ⟨by rw [List.all_append, items_ok h, items_ok h2]; rfl, by rw [List.length_append]; exact n.1, setOf_subs _, n.2⟩
def holesOf (ns : List Int) : List Int := ten.filter fun k => decide (ns.headD 0 ≤ k) && decide (k ≤ ns.getLastD 0) && !decide (k ∈ ns)
theorem holes_rg : ∀ ns ∈ subs ten, ns ≠ [] → atI ns 0 = some (ns.headD 0) ∧ atI ns (-1) = some (ns.getLastD 0) ∧ (1 ≤ ns.headD 0 ∧ ns.headD 0 ≤ 10) ∧ (1 ≤ ns.getLastD 0 ∧ ns.getLastD 0 ≤ 10) ∧
    (((List.range ((ns.getLastD 0 + 1) - ns.headD 0).toNat).map fun i : Nat => ns.headD 0 + (i : Int)).filter fun k => !decide (k ∈ ns)) = holesOf ns := by decide +kernel
theorem any_ints (i : Int) (ns : List Int) : ((ns.map PyData.int).any fun z => PyData.eqv z (.int i)) = decide (i ∈ ns) := by
  rw [List.any_map]
  simp only [Function.comp_def, eqv_int]
  cases h : decide (i ∈ ns) with
  | true => exact List.any_eq_true.mpr ⟨i, of_decide_eq_true h, decide_eq_true rfl⟩
  | false =>
    have := of_decide_eq_false h
    cases q : ns.any fun x => decide (x = i) with
    | false => rfl
    | true =>
      obtain ⟨x, hx, e⟩ := List.any_eq_true.mp q
      rw [of_decide_eq_true e] at hx
      exact absurd hx this
def rgI (lo : Int) (n : Nat) : List Int := (List.range n).map fun i : Nat => lo + (i : Int)
theorem rgD_eq (lo : Int) (n : Nat) : rgD lo n = (rgI lo n).map .int := by
  unfold rgD rgI
  rw [List.map_map]
  rfl
theorem atI_map {α β : Type} (f : α → β) (xs : List α) (i : Int) : atI (xs.map f) i = (atI xs i).map f := by
  unfold atI
  rw [List.length_map]
  cases ixN xs.length i <;> simp
def sp_gaps : Spec0 := fun ds N Nx => ∃ d, ds = [.py d] ∧ Fine d ∧ (match setD d with | some ns => N (.py (.list ((runsOf (holesOf ns)).map itD))) | none => Nx .set)
def w_gaps : WS Unit :=
  wSeq (wDrop (wCall0 sp_check_set (wCons (wVar 0) (wNil)))) (wRet (wCall0 sp_runs_of (wCons (wLc (wRg2 (wCons (wOp fIx kIx (wVar 0) (wC (.int 0))) (wCons (wOp fAdd kAdd (wOp fIx kIx (wVar 0) (wNeg (wC (.int 1)))) (wC (.int 1))) (wNil)))) (wgName 1) (wT (wOp fNi kIn (wVar 1) (wVar 0))) (wVar 1) [1]) (wNil))))
theorem law_gaps : ∀ ds θ N Nx, sp_gaps.up ds θ N Nx → w_gaps (bodyEN N Nx) (startD 2 ds) θ := by
  rintro ds θ N Nx ⟨d, rfl, fn, n⟩
  simp only [w_gaps, sp_check_set, wVar, wOwn, wC, wOp, wT, wChain, wAndT, wOrT, wNotT, wAnd, wOr, wNot, wIf, wNil, wCons, wDisp, wCall, wCall0, wNoPart, wPart, wSl, wRevL, wBlt, wItL, wItT, wItS, wRg1, wRg2, wEnum, wZip, wLR, wLR2, wYes, wM1, wFmt, wJoined, wIsi, wNeg, wNewD, wOwnCat, wPar2, wNext, wSeq, wNever, wSet, wNew, wAug, wExtend, wAppend, wPut, wFrz, wRet, wRetOwn, wRetN, wDrop, wIfS, wgName, wgTup, wUnp, wRaise, bodyEN, wLc, wFor, wSortSet, e_add_i, e_add_s, e_add_l, e_add_t, e_kadd_i, e_kadd_s, e_kadd_l, e_kadd_t, e_sub, e_kt, e_mul_i, e_mul_l, e_kmul_i, e_kmul_l, e_div, e_kdiv, e_mod, e_kmod, e_cmp, e_eq, e_ne, e_keq, e_is_n, e_is_b, e_isn_n, e_isn_b, e_non_n, e_non_l, e_non_t, e_non_i, e_non_s, e_non_b, e_non_x, e_in_l, e_in_t, e_ni_l, e_ni_t, e_kin_l, e_kin_t, e_kin_s, e_ix_l, e_ix_t, e_ix_s, e_kix_l, e_kix_t, e_kix_s, e_sl_l, e_sl_t, e_sl_s, e_len_l, e_len_t, e_len_s, e_klen_l, e_klen_t, e_klen_s, e_kany, e_list_l, e_list_t, e_tup_l, e_tup_t, e_sum, e_max, e_max2, e_min, e_kne, e_kne2, e_all, e_str, e_kstr, e_int, e_kint, e_split, e_ksplit, e_part, e_kpart, e_join, e_kjoin, e_pys0, e_pys1, e_sa0, e_sa1, e_wipe0, e_wipe1, e_js0, e_js1, e_ty_i, e_ty_b, e_ty_n, e_ty_s, e_ty_l, e_ty_t, e_isi_ii, e_isi_ib, e_isi_in, e_isi_is, e_isi_il, e_isi_it, e_isi_bi, e_isi_bb, e_isi_bn, e_isi_bs, e_isi_bl, e_isi_bt, e_isi_li, e_isi_lb, e_isi_ln, e_isi_ls, e_isi_ll, e_isi_lt, e_isi_ti, e_isi_tb, e_isi_tn, e_isi_ts, e_isi_tl, e_isi_tt, e_isi_si, e_isi_sb, e_isi_sn, e_isi_ss, e_isi_sl, e_isi_st, e_up, e_st0, e_st1, e_st2, exists_eq_left, exists_eq_left', exists_eq_right, exists_eq_right', exists_eq', exists_eq, true_and, and_true, and_self, false_and, and_false, exists_and_left, exists_and_right, exists_const, Option.some.injEq, Option.map_some, Option.map_none, Sl.is.injEq, Sl.own.injEq, D.py.injEq, D.ex.injEq, D.rf.injEq, PyData.int.injEq, PyData.bool.injEq, PyData.str.injEq, PyData.list.injEq, PyData.tuple.injEq, List.cons.injEq, if_true, if_false, eq_self, Bool.false_eq_true, Bool.true_eq_false, Bool.not_true, Bool.not_false, Bool.not_not, List.getElem?_cons_zero, List.getElem?_cons_succ, List.set_cons_zero, List.set_cons_succ, List.length_cons, List.length_nil, List.cons_append, List.nil_append, reduceCtorEq, List.replicate_zero, List.replicate_succ, Nat.reduceAdd, Nat.reduceSub, decide_true, decide_false, intsOf_map', blsOf_map', strsOf_map', map_int_inj, map_str_inj, map_bool_inj, map_itD_inj, itD_iff, sh_int, sh_bool, sh_none, sh_itD, sh_nil, sh_ints, sh_its, eqv_int, eqv_bool, eqv_str, eqv_itD, eqv_ints, eqv_strs, eqv_its, eqv_nil, Nat.zero_le, and_assoc]
  refine ⟨fn, ?_⟩
  rw [isSetD_eq]
  cases h : setD d with
  | none => simp only [h, Option.isSome_none, wVar, wOwn, wC, wOp, wT, wChain, wAndT, wOrT, wNotT, wAnd, wOr, wNot, wIf, wNil, wCons, wDisp, wCall, wCall0, wNoPart, wPart, wSl, wRevL, wBlt, wItL, wItT, wItS, wRg1, wRg2, wEnum, wZip, wLR, wLR2, wYes, wM1, wFmt, wJoined, wIsi, wNeg, wNewD, wOwnCat, wPar2, wNext, wSeq, wNever, wSet, wNew, wAug, wExtend, wAppend, wPut, wFrz, wRet, wRetOwn, wRetN, wDrop, wIfS, wgName, wgTup, wUnp, wRaise, bodyEN, wLc, wFor, wSortSet, e_add_i, e_add_s, e_add_l, e_add_t, e_kadd_i, e_kadd_s, e_kadd_l, e_kadd_t, e_sub, e_kt, e_mul_i, e_mul_l, e_kmul_i, e_kmul_l, e_div, e_kdiv, e_mod, e_kmod, e_cmp, e_eq, e_ne, e_keq, e_is_n, e_is_b, e_isn_n, e_isn_b, e_non_n, e_non_l, e_non_t, e_non_i, e_non_s, e_non_b, e_non_x, e_in_l, e_in_t, e_ni_l, e_ni_t, e_kin_l, e_kin_t, e_kin_s, e_ix_l, e_ix_t, e_ix_s, e_kix_l, e_kix_t, e_kix_s, e_sl_l, e_sl_t, e_sl_s, e_len_l, e_len_t, e_len_s, e_klen_l, e_klen_t, e_klen_s, e_kany, e_list_l, e_list_t, e_tup_l, e_tup_t, e_sum, e_max, e_max2, e_min, e_kne, e_kne2, e_all, e_str, e_kstr, e_int, e_kint, e_split, e_ksplit, e_part, e_kpart, e_join, e_kjoin, e_pys0, e_pys1, e_sa0, e_sa1, e_wipe0, e_wipe1, e_js0, e_js1, e_ty_i, e_ty_b, e_ty_n, e_ty_s, e_ty_l, e_ty_t, e_isi_ii, e_isi_ib, e_isi_in, e_isi_is, e_isi_il, e_isi_it, e_isi_bi, e_isi_bb, e_isi_bn, e_isi_bs, e_isi_bl, e_isi_bt, e_isi_li, e_isi_lb, e_isi_ln, e_isi_ls, e_isi_ll, e_isi_lt, e_isi_ti, e_isi_tb, e_isi_tn, e_isi_ts, e_isi_tl, e_isi_tt, e_isi_si, e_isi_sb, e_isi_sn, e_isi_ss, e_isi_sl, e_isi_st, e_up, e_st0, e_st1, e_st2, exists_eq_left, exists_eq_left', exists_eq_right, exists_eq_right', exists_eq', exists_eq, true_and, and_true, and_self, false_and, and_false, exists_and_left, exists_and_right, exists_const, Option.some.injEq, Option.map_some, Option.map_none, Sl.is.injEq, Sl.own.injEq, D.py.injEq, D.ex.injEq, D.rf.injEq, PyData.int.injEq, PyData.bool.injEq, PyData.str.injEq, PyData.list.injEq, PyData.tuple.injEq, List.cons.injEq, if_true, if_false, eq_self, Bool.false_eq_true, Bool.true_eq_false, Bool.not_true, Bool.not_false, Bool.not_not, List.getElem?_cons_zero, List.getElem?_cons_succ, List.set_cons_zero, List.set_cons_succ, List.length_cons, List.length_nil, List.cons_append, List.nil_append, reduceCtorEq, List.replicate_zero, List.replicate_succ, Nat.reduceAdd, Nat.reduceSub, decide_true, decide_false, intsOf_map', blsOf_map', strsOf_map', map_int_inj, map_str_inj, map_bool_inj, map_itD_inj, itD_iff, sh_int, sh_bool, sh_none, sh_itD, sh_nil, sh_ints, sh_its, eqv_int, eqv_bool, eqv_str, eqv_itD, eqv_ints, eqv_strs, eqv_its, eqv_nil, Nat.zero_le, and_assoc] at n ⊢; exact n
  | some ns =>
    obtain ⟨rfl, hs⟩ := setD_some h
    obtain ⟨h1, h2⟩ := setI_iff.mp hs
    obtain ⟨a0, a1, b0, b1, hh⟩ := holes_rg ns h1 h2
    simp only [h, Option.isSome_some, wVar, wOwn, wC, wOp, wT, wChain, wAndT, wOrT, wNotT, wAnd, wOr, wNot, wIf, wNil, wCons, wDisp, wCall, wCall0, wNoPart, wPart, wSl, wRevL, wBlt, wItL, wItT, wItS, wRg1, wRg2, wEnum, wZip, wLR, wLR2, wYes, wM1, wFmt, wJoined, wIsi, wNeg, wNewD, wOwnCat, wPar2, wNext, wSeq, wNever, wSet, wNew, wAug, wExtend, wAppend, wPut, wFrz, wRet, wRetOwn, wRetN, wDrop, wIfS, wgName, wgTup, wUnp, wRaise, bodyEN, wLc, wFor, wSortSet, e_add_i, e_add_s, e_add_l, e_add_t, e_kadd_i, e_kadd_s, e_kadd_l, e_kadd_t, e_sub, e_kt, e_mul_i, e_mul_l, e_kmul_i, e_kmul_l, e_div, e_kdiv, e_mod, e_kmod, e_cmp, e_eq, e_ne, e_keq, e_is_n, e_is_b, e_isn_n, e_isn_b, e_non_n, e_non_l, e_non_t, e_non_i, e_non_s, e_non_b, e_non_x, e_in_l, e_in_t, e_ni_l, e_ni_t, e_kin_l, e_kin_t, e_kin_s, e_ix_l, e_ix_t, e_ix_s, e_kix_l, e_kix_t, e_kix_s, e_sl_l, e_sl_t, e_sl_s, e_len_l, e_len_t, e_len_s, e_klen_l, e_klen_t, e_klen_s, e_kany, e_list_l, e_list_t, e_tup_l, e_tup_t, e_sum, e_max, e_max2, e_min, e_kne, e_kne2, e_all, e_str, e_kstr, e_int, e_kint, e_split, e_ksplit, e_part, e_kpart, e_join, e_kjoin, e_pys0, e_pys1, e_sa0, e_sa1, e_wipe0, e_wipe1, e_js0, e_js1, e_ty_i, e_ty_b, e_ty_n, e_ty_s, e_ty_l, e_ty_t, e_isi_ii, e_isi_ib, e_isi_in, e_isi_is, e_isi_il, e_isi_it, e_isi_bi, e_isi_bb, e_isi_bn, e_isi_bs, e_isi_bl, e_isi_bt, e_isi_li, e_isi_lb, e_isi_ln, e_isi_ls, e_isi_ll, e_isi_lt, e_isi_ti, e_isi_tb, e_isi_tn, e_isi_ts, e_isi_tl, e_isi_tt, e_isi_si, e_isi_sb, e_isi_sn, e_isi_ss, e_isi_sl, e_isi_st, e_up, e_st0, e_st1, e_st2, exists_eq_left, exists_eq_left', exists_eq_right, exists_eq_right', exists_eq', exists_eq, true_and, and_true, and_self, false_and, and_false, exists_and_left, exists_and_right, exists_const, Option.some.injEq, Option.map_some, Option.map_none, Sl.is.injEq, Sl.own.injEq, D.py.injEq, D.ex.injEq, D.rf.injEq, PyData.int.injEq, PyData.bool.injEq, PyData.str.injEq, PyData.list.injEq, PyData.tuple.injEq, List.cons.injEq, if_true, if_false, eq_self, Bool.false_eq_true, Bool.true_eq_false, Bool.not_true, Bool.not_false, Bool.not_not, List.getElem?_cons_zero, List.getElem?_cons_succ, List.set_cons_zero, List.set_cons_succ, List.length_cons, List.length_nil, List.cons_append, List.nil_append, reduceCtorEq, List.replicate_zero, List.replicate_succ, Nat.reduceAdd, Nat.reduceSub, decide_true, decide_false, intsOf_map', blsOf_map', strsOf_map', map_int_inj, map_str_inj, map_bool_inj, map_itD_inj, itD_iff, sh_int, sh_bool, sh_none, sh_itD, sh_nil, sh_ints, sh_its, eqv_int, eqv_bool, eqv_str, eqv_itD, eqv_ints, eqv_strs, eqv_its, eqv_nil, Nat.zero_le, and_assoc, atI_map, a0, a1, rgD_eq, List.map_map] at n ⊢
    refine ⟨by omega, by omega, by omega, by omega, ?_⟩
    refine lcGo_fm (D.py ∘ PyData.int) (fun k => !decide (k ∈ ns)) PyData.int _ [] (fun k hk T F q => ?_) ?_ ?_
    · simp only [Function.comp, wVar, wOwn, wC, wOp, wT, wChain, wAndT, wOrT, wNotT, wAnd, wOr, wNot, wIf, wNil, wCons, wDisp, wCall, wCall0, wNoPart, wPart, wSl, wRevL, wBlt, wItL, wItT, wItS, wRg1, wRg2, wEnum, wZip, wLR, wLR2, wYes, wM1, wFmt, wJoined, wIsi, wNeg, wNewD, wOwnCat, wPar2, wNext, wSeq, wNever, wSet, wNew, wAug, wExtend, wAppend, wPut, wFrz, wRet, wRetOwn, wRetN, wDrop, wIfS, wgName, wgTup, wUnp, wRaise, bodyEN, wLc, wFor, wSortSet, e_add_i, e_add_s, e_add_l, e_add_t, e_kadd_i, e_kadd_s, e_kadd_l, e_kadd_t, e_sub, e_kt, e_mul_i, e_mul_l, e_kmul_i, e_kmul_l, e_div, e_kdiv, e_mod, e_kmod, e_cmp, e_eq, e_ne, e_keq, e_is_n, e_is_b, e_isn_n, e_isn_b, e_non_n, e_non_l, e_non_t, e_non_i, e_non_s, e_non_b, e_non_x, e_in_l, e_in_t, e_ni_l, e_ni_t, e_kin_l, e_kin_t, e_kin_s, e_ix_l, e_ix_t, e_ix_s, e_kix_l, e_kix_t, e_kix_s, e_sl_l, e_sl_t, e_sl_s, e_len_l, e_len_t, e_len_s, e_klen_l, e_klen_t, e_klen_s, e_kany, e_list_l, e_list_t, e_tup_l, e_tup_t, e_sum, e_max, e_max2, e_min, e_kne, e_kne2, e_all, e_str, e_kstr, e_int, e_kint, e_split, e_ksplit, e_part, e_kpart, e_join, e_kjoin, e_pys0, e_pys1, e_sa0, e_sa1, e_wipe0, e_wipe1, e_js0, e_js1, e_ty_i, e_ty_b, e_ty_n, e_ty_s, e_ty_l, e_ty_t, e_isi_ii, e_isi_ib, e_isi_in, e_isi_is, e_isi_il, e_isi_it, e_isi_bi, e_isi_bb, e_isi_bn, e_isi_bs, e_isi_bl, e_isi_bt, e_isi_li, e_isi_lb, e_isi_ln, e_isi_ls, e_isi_ll, e_isi_lt, e_isi_ti, e_isi_tb, e_isi_tn, e_isi_ts, e_isi_tl, e_isi_tt, e_isi_si, e_isi_sb, e_isi_sn, e_isi_ss, e_isi_sl, e_isi_st, e_up, e_st0, e_st1, e_st2, exists_eq_left, exists_eq_left', exists_eq_right, exists_eq_right', exists_eq', exists_eq, true_and, and_true, and_self, false_and, and_false, exists_and_left, exists_and_right, exists_const, Option.some.injEq, Option.map_some, Option.map_none, Sl.is.injEq, Sl.own.injEq, D.py.injEq, D.ex.injEq, D.rf.injEq, PyData.int.injEq, PyData.bool.injEq, PyData.str.injEq, PyData.list.injEq, PyData.tuple.injEq, List.cons.injEq, if_true, if_false, eq_self, Bool.false_eq_true, Bool.true_eq_false, Bool.not_true, Bool.not_false, Bool.not_not, List.getElem?_cons_zero, List.getElem?_cons_succ, List.set_cons_zero, List.set_cons_succ, List.length_cons, List.length_nil, List.cons_append, List.nil_append, reduceCtorEq, List.replicate_zero, List.replicate_succ, Nat.reduceAdd, Nat.reduceSub, decide_true, decide_false, intsOf_map', blsOf_map', strsOf_map', map_int_inj, map_str_inj, map_bool_inj, map_itD_inj, itD_iff, sh_int, sh_bool, sh_none, sh_itD, sh_nil, sh_ints, sh_its, eqv_int, eqv_bool, eqv_str, eqv_itD, eqv_ints, eqv_strs, eqv_its, eqv_nil, Nat.zero_le, and_assoc, any_ints]
      exact q
    · simp only [rgI, List.length_nil, List.length_map, List.length_range]
      exact le_line (by omega)
    · simp only [List.nil_append, rgI, hh, sp_runs_of, wVar, wOwn, wC, wOp, wT, wChain, wAndT, wOrT, wNotT, wAnd, wOr, wNot, wIf, wNil, wCons, wDisp, wCall, wCall0, wNoPart, wPart, wSl, wRevL, wBlt, wItL, wItT, wItS, wRg1, wRg2, wEnum, wZip, wLR, wLR2, wYes, wM1, wFmt, wJoined, wIsi, wNeg, wNewD, wOwnCat, wPar2, wNext, wSeq, wNever, wSet, wNew, wAug, wExtend, wAppend, wPut, wFrz, wRet, wRetOwn, wRetN, wDrop, wIfS, wgName, wgTup, wUnp, wRaise, bodyEN, wLc, wFor, wSortSet, e_add_i, e_add_s, e_add_l, e_add_t, e_kadd_i, e_kadd_s, e_kadd_l, e_kadd_t, e_sub, e_kt, e_mul_i, e_mul_l, e_kmul_i, e_kmul_l, e_div, e_kdiv, e_mod, e_kmod, e_cmp, e_eq, e_ne, e_keq, e_is_n, e_is_b, e_isn_n, e_isn_b, e_non_n, e_non_l, e_non_t, e_non_i, e_non_s, e_non_b, e_non_x, e_in_l, e_in_t, e_ni_l, e_ni_t, e_kin_l, e_kin_t, e_kin_s, e_ix_l, e_ix_t, e_ix_s, e_kix_l, e_kix_t, e_kix_s, e_sl_l, e_sl_t, e_sl_s, e_len_l, e_len_t, e_len_s, e_klen_l, e_klen_t, e_klen_s, e_kany, e_list_l, e_list_t, e_tup_l, e_tup_t, e_sum, e_max, e_max2, e_min, e_kne, e_kne2, e_all, e_str, e_kstr, e_int, e_kint, e_split, e_ksplit, e_part, e_kpart, e_join, e_kjoin, e_pys0, e_pys1, e_sa0, e_sa1, e_wipe0, e_wipe1, e_js0, e_js1, e_ty_i, e_ty_b, e_ty_n, e_ty_s, e_ty_l, e_ty_t, e_isi_ii, e_isi_ib, e_isi_in, e_isi_is, e_isi_il, e_isi_it, e_isi_bi, e_isi_bb, e_isi_bn, e_isi_bs, e_isi_bl, e_isi_bt, e_isi_li, e_isi_lb, e_isi_ln, e_isi_ls, e_isi_ll, e_isi_lt, e_isi_ti, e_isi_tb, e_isi_tn, e_isi_ts, e_isi_tl, e_isi_tt, e_isi_si, e_isi_sb, e_isi_sn, e_isi_ss, e_isi_sl, e_isi_st, e_up, e_st0, e_st1, e_st2, exists_eq_left, exists_eq_left', exists_eq_right, exists_eq_right', exists_eq', exists_eq, true_and, and_true, and_self, false_and, and_false, exists_and_left, exists_and_right, exists_const, Option.some.injEq, Option.map_some, Option.map_none, Sl.is.injEq, Sl.own.injEq, D.py.injEq, D.ex.injEq, D.rf.injEq, PyData.int.injEq, PyData.bool.injEq, PyData.str.injEq, PyData.list.injEq, PyData.tuple.injEq, List.cons.injEq, if_true, if_false, eq_self, Bool.false_eq_true, Bool.true_eq_false, Bool.not_true, Bool.not_false, Bool.not_not, List.getElem?_cons_zero, List.getElem?_cons_succ, List.set_cons_zero, List.set_cons_succ, List.length_cons, List.length_nil, List.cons_append, List.nil_append, reduceCtorEq, List.replicate_zero, List.replicate_succ, Nat.reduceAdd, Nat.reduceSub, decide_true, decide_false, intsOf_map', blsOf_map', strsOf_map', map_int_inj, map_str_inj, map_bool_inj, map_itD_inj, itD_iff, sh_int, sh_bool, sh_none, sh_itD, sh_nil, sh_ints, sh_its, eqv_int, eqv_bool, eqv_str, eqv_itD, eqv_ints, eqv_strs, eqv_its, eqv_nil, Nat.zero_le, and_assoc]
      refine ⟨?_, n⟩
      have : (holesOf ns).length ≤ 10 := List.length_filter_le _ _
      omega
/-! ### needless -/
def needP (its : List Itm) (i : Nat) : Bool := !(its.take i ++ its.drop (i + 1)).isEmpty && decide (setOf (its.take i ++ its.drop (i + 1)) = setOf its)
def needTo (its : List Itm) (n : Nat) : List Int := ((List.range n).filter (needP its)).map fun i : Nat => (i : Int)
def needlessOf (its : List Itm) : List Int := needTo its its.length
theorem enD_zip {α : Type} (f : α → PyData) : ∀ (xs : List α) (k : Nat), enD k (xs.map f) = (xs.zipIdx k).map fun p => .tuple [.int (p.2 : Nat), f p.1]
  | [], _ => rfl
  | x :: xs, k => by simp [enD, enD_zip f xs (k + 1)]
theorem cutD_take {α : Type} {xs : List α} {i : Nat} (h : i ≤ xs.length) : cutD xs none (some (i : Int)) = xs.take i := by
  unfold cutD
  rw [HT.sIx_none, HT.sIx_nat, Nat.min_eq_left h]
  simp
theorem cutD_drop {α : Type} {xs : List α} {i : Nat} (h : i ≤ xs.length) : cutD xs (some (i : Int)) none = xs.drop i := by
  unfold cutD
  rw [HT.sIx_none, HT.sIx_nat, Nat.min_eq_left h]
  exact List.take_of_length_le (by simp)
theorem needTo_succ (its : List Itm) (i : Nat) : needTo its (i + 1) = if needP its i = true then needTo its i ++ [(i : Int)] else needTo its i := by
  unfold needTo
  rw [List.range_succ, List.filter_append]
  cases h : needP its i <;> simp [h]
theorem needTo_len (its : List Itm) (i : Nat) : (needTo its i).length ≤ i := by
  unfold needTo
  rw [List.length_map]
  have := List.length_filter_le (needP its) (List.range i)
  simpa using this
def sp_needless : Spec0 := fun ds N Nx => ∃ d, ds = [.py d] ∧ TFine d ∧ (match itemsD d with | some its => its.length ≤ 400 ∧ N (.py (.list ((needlessOf its).map .int))) | none => Nx .text)
def w_needless : WS Unit :=
  wSeq (wDrop (wCall0 sp_check_text (wCons (wVar 0) (wNil)))) (wSeq (wSet 1 (wCall0 sp_items_in (wCons (wVar 0) (wNil)))) (wSeq (wNew 2) (wSeq (wFor (wEnum (wCons (wVar 1) (wNil))) (wgTup [3, 4]) (wSeq (wSet 5 (wOp fAdd kAdd (wSl (wVar 1) (wNoPart) (wPart (wVar 3))) (wSl (wVar 1) (wPart (wOp fAdd kAdd (wVar 3) (wC (.int 1)))) (wNoPart)))) (wIfS (wAndT (wT (wOp fNe kEq (wVar 5) (wDisp .list (wNil)))) (wT (wOp fEq kEq (wCall0 sp_set_of (wCons (wVar 5) (wNil))) (wCall0 sp_set_of (wCons (wVar 1) (wNil)))))) (wAppend 2 (wVar 3)) (wNext)))) (wFrz 2 (wRet (wVar 2))))))
theorem law_needless : ∀ ds θ N Nx, sp_needless.up ds θ N Nx → w_needless (bodyEN N Nx) (startD 6 ds) θ := by
  rintro ds θ N Nx ⟨d, rfl, fn, n⟩
  simp only [w_needless, sp_check_text, sp_items_in, wVar, wOwn, wC, wOp, wT, wChain, wAndT, wOrT, wNotT, wAnd, wOr, wNot, wIf, wNil, wCons, wDisp, wCall, wCall0, wNoPart, wPart, wSl, wRevL, wBlt, wItL, wItT, wItS, wRg1, wRg2, wEnum, wZip, wLR, wLR2, wYes, wM1, wFmt, wJoined, wIsi, wNeg, wNewD, wOwnCat, wPar2, wNext, wSeq, wNever, wSet, wNew, wAug, wExtend, wAppend, wPut, wFrz, wRet, wRetOwn, wRetN, wDrop, wIfS, wgName, wgTup, wUnp, wRaise, bodyEN, wLc, wFor, wSortSet, e_add_i, e_add_s, e_add_l, e_add_t, e_kadd_i, e_kadd_s, e_kadd_l, e_kadd_t, e_sub, e_kt, e_mul_i, e_mul_l, e_kmul_i, e_kmul_l, e_div, e_kdiv, e_mod, e_kmod, e_cmp, e_eq, e_ne, e_keq, e_is_n, e_is_b, e_isn_n, e_isn_b, e_non_n, e_non_l, e_non_t, e_non_i, e_non_s, e_non_b, e_non_x, e_in_l, e_in_t, e_ni_l, e_ni_t, e_kin_l, e_kin_t, e_kin_s, e_ix_l, e_ix_t, e_ix_s, e_kix_l, e_kix_t, e_kix_s, e_sl_l, e_sl_t, e_sl_s, e_len_l, e_len_t, e_len_s, e_klen_l, e_klen_t, e_klen_s, e_kany, e_list_l, e_list_t, e_tup_l, e_tup_t, e_sum, e_max, e_max2, e_min, e_kne, e_kne2, e_all, e_str, e_kstr, e_int, e_kint, e_split, e_ksplit, e_part, e_kpart, e_join, e_kjoin, e_pys0, e_pys1, e_sa0, e_sa1, e_wipe0, e_wipe1, e_js0, e_js1, e_ty_i, e_ty_b, e_ty_n, e_ty_s, e_ty_l, e_ty_t, e_isi_ii, e_isi_ib, e_isi_in, e_isi_is, e_isi_il, e_isi_it, e_isi_bi, e_isi_bb, e_isi_bn, e_isi_bs, e_isi_bl, e_isi_bt, e_isi_li, e_isi_lb, e_isi_ln, e_isi_ls, e_isi_ll, e_isi_lt, e_isi_ti, e_isi_tb, e_isi_tn, e_isi_ts, e_isi_tl, e_isi_tt, e_isi_si, e_isi_sb, e_isi_sn, e_isi_ss, e_isi_sl, e_isi_st, e_up, e_st0, e_st1, e_st2, exists_eq_left, exists_eq_left', exists_eq_right, exists_eq_right', exists_eq', exists_eq, true_and, and_true, and_self, false_and, and_false, exists_and_left, exists_and_right, exists_const, Option.some.injEq, Option.map_some, Option.map_none, Sl.is.injEq, Sl.own.injEq, D.py.injEq, D.ex.injEq, D.rf.injEq, PyData.int.injEq, PyData.bool.injEq, PyData.str.injEq, PyData.list.injEq, PyData.tuple.injEq, List.cons.injEq, if_true, if_false, eq_self, Bool.false_eq_true, Bool.true_eq_false, Bool.not_true, Bool.not_false, Bool.not_not, List.getElem?_cons_zero, List.getElem?_cons_succ, List.set_cons_zero, List.set_cons_succ, List.length_cons, List.length_nil, List.cons_append, List.nil_append, reduceCtorEq, List.replicate_zero, List.replicate_succ, Nat.reduceAdd, Nat.reduceSub, decide_true, decide_false, intsOf_map', blsOf_map', strsOf_map', map_int_inj, map_str_inj, map_bool_inj, map_itD_inj, itD_iff, sh_int, sh_bool, sh_none, sh_itD, sh_nil, sh_ints, sh_its, eqv_int, eqv_bool, eqv_str, eqv_itD, eqv_ints, eqv_strs, eqv_its, eqv_nil, Nat.zero_le, and_assoc]
  refine ⟨fn, ?_⟩
  cases h : itemsD d with
  | none => simp only [h, wVar, wOwn, wC, wOp, wT, wChain, wAndT, wOrT, wNotT, wAnd, wOr, wNot, wIf, wNil, wCons, wDisp, wCall, wCall0, wNoPart, wPart, wSl, wRevL, wBlt, wItL, wItT, wItS, wRg1, wRg2, wEnum, wZip, wLR, wLR2, wYes, wM1, wFmt, wJoined, wIsi, wNeg, wNewD, wOwnCat, wPar2, wNext, wSeq, wNever, wSet, wNew, wAug, wExtend, wAppend, wPut, wFrz, wRet, wRetOwn, wRetN, wDrop, wIfS, wgName, wgTup, wUnp, wRaise, bodyEN, wLc, wFor, wSortSet, e_add_i, e_add_s, e_add_l, e_add_t, e_kadd_i, e_kadd_s, e_kadd_l, e_kadd_t, e_sub, e_kt, e_mul_i, e_mul_l, e_kmul_i, e_kmul_l, e_div, e_kdiv, e_mod, e_kmod, e_cmp, e_eq, e_ne, e_keq, e_is_n, e_is_b, e_isn_n, e_isn_b, e_non_n, e_non_l, e_non_t, e_non_i, e_non_s, e_non_b, e_non_x, e_in_l, e_in_t, e_ni_l, e_ni_t, e_kin_l, e_kin_t, e_kin_s, e_ix_l, e_ix_t, e_ix_s, e_kix_l, e_kix_t, e_kix_s, e_sl_l, e_sl_t, e_sl_s, e_len_l, e_len_t, e_len_s, e_klen_l, e_klen_t, e_klen_s, e_kany, e_list_l, e_list_t, e_tup_l, e_tup_t, e_sum, e_max, e_max2, e_min, e_kne, e_kne2, e_all, e_str, e_kstr, e_int, e_kint, e_split, e_ksplit, e_part, e_kpart, e_join, e_kjoin, e_pys0, e_pys1, e_sa0, e_sa1, e_wipe0, e_wipe1, e_js0, e_js1, e_ty_i, e_ty_b, e_ty_n, e_ty_s, e_ty_l, e_ty_t, e_isi_ii, e_isi_ib, e_isi_in, e_isi_is, e_isi_il, e_isi_it, e_isi_bi, e_isi_bb, e_isi_bn, e_isi_bs, e_isi_bl, e_isi_bt, e_isi_li, e_isi_lb, e_isi_ln, e_isi_ls, e_isi_ll, e_isi_lt, e_isi_ti, e_isi_tb, e_isi_tn, e_isi_ts, e_isi_tl, e_isi_tt, e_isi_si, e_isi_sb, e_isi_sn, e_isi_ss, e_isi_sl, e_isi_st, e_up, e_st0, e_st1, e_st2, exists_eq_left, exists_eq_left', exists_eq_right, exists_eq_right', exists_eq', exists_eq, true_and, and_true, and_self, false_and, and_false, exists_and_left, exists_and_right, exists_const, Option.some.injEq, Option.map_some, Option.map_none, Sl.is.injEq, Sl.own.injEq, D.py.injEq, D.ex.injEq, D.rf.injEq, PyData.int.injEq, PyData.bool.injEq, PyData.str.injEq, PyData.list.injEq, PyData.tuple.injEq, List.cons.injEq, if_true, if_false, eq_self, Bool.false_eq_true, Bool.true_eq_false, Bool.not_true, Bool.not_false, Bool.not_not, List.getElem?_cons_zero, List.getElem?_cons_succ, List.set_cons_zero, List.set_cons_succ, List.length_cons, List.length_nil, List.cons_append, List.nil_append, reduceCtorEq, List.replicate_zero, List.replicate_succ, Nat.reduceAdd, Nat.reduceSub, decide_true, decide_false, intsOf_map', blsOf_map', strsOf_map', map_int_inj, map_str_inj, map_bool_inj, map_itD_inj, itD_iff, sh_int, sh_bool, sh_none, sh_itD, sh_nil, sh_ints, sh_its, eqv_int, eqv_bool, eqv_str, eqv_itD, eqv_ints, eqv_strs, eqv_its, eqv_nil, Nat.zero_le, and_assoc] at n ⊢; exact n
  | some its =>
    simp only [h, wVar, wOwn, wC, wOp, wT, wChain, wAndT, wOrT, wNotT, wAnd, wOr, wNot, wIf, wNil, wCons, wDisp, wCall, wCall0, wNoPart, wPart, wSl, wRevL, wBlt, wItL, wItT, wItS, wRg1, wRg2, wEnum, wZip, wLR, wLR2, wYes, wM1, wFmt, wJoined, wIsi, wNeg, wNewD, wOwnCat, wPar2, wNext, wSeq, wNever, wSet, wNew, wAug, wExtend, wAppend, wPut, wFrz, wRet, wRetOwn, wRetN, wDrop, wIfS, wgName, wgTup, wUnp, wRaise, bodyEN, wLc, wFor, wSortSet, e_add_i, e_add_s, e_add_l, e_add_t, e_kadd_i, e_kadd_s, e_kadd_l, e_kadd_t, e_sub, e_kt, e_mul_i, e_mul_l, e_kmul_i, e_kmul_l, e_div, e_kdiv, e_mod, e_kmod, e_cmp, e_eq, e_ne, e_keq, e_is_n, e_is_b, e_isn_n, e_isn_b, e_non_n, e_non_l, e_non_t, e_non_i, e_non_s, e_non_b, e_non_x, e_in_l, e_in_t, e_ni_l, e_ni_t, e_kin_l, e_kin_t, e_kin_s, e_ix_l, e_ix_t, e_ix_s, e_kix_l, e_kix_t, e_kix_s, e_sl_l, e_sl_t, e_sl_s, e_len_l, e_len_t, e_len_s, e_klen_l, e_klen_t, e_klen_s, e_kany, e_list_l, e_list_t, e_tup_l, e_tup_t, e_sum, e_max, e_max2, e_min, e_kne, e_kne2, e_all, e_str, e_kstr, e_int, e_kint, e_split, e_ksplit, e_part, e_kpart, e_join, e_kjoin, e_pys0, e_pys1, e_sa0, e_sa1, e_wipe0, e_wipe1, e_js0, e_js1, e_ty_i, e_ty_b, e_ty_n, e_ty_s, e_ty_l, e_ty_t, e_isi_ii, e_isi_ib, e_isi_in, e_isi_is, e_isi_il, e_isi_it, e_isi_bi, e_isi_bb, e_isi_bn, e_isi_bs, e_isi_bl, e_isi_bt, e_isi_li, e_isi_lb, e_isi_ln, e_isi_ls, e_isi_ll, e_isi_lt, e_isi_ti, e_isi_tb, e_isi_tn, e_isi_ts, e_isi_tl, e_isi_tt, e_isi_si, e_isi_sb, e_isi_sn, e_isi_ss, e_isi_sl, e_isi_st, e_up, e_st0, e_st1, e_st2, exists_eq_left, exists_eq_left', exists_eq_right, exists_eq_right', exists_eq', exists_eq, true_and, and_true, and_self, false_and, and_false, exists_and_left, exists_and_right, exists_const, Option.some.injEq, Option.map_some, Option.map_none, Sl.is.injEq, Sl.own.injEq, D.py.injEq, D.ex.injEq, D.rf.injEq, PyData.int.injEq, PyData.bool.injEq, PyData.str.injEq, PyData.list.injEq, PyData.tuple.injEq, List.cons.injEq, if_true, if_false, eq_self, Bool.false_eq_true, Bool.true_eq_false, Bool.not_true, Bool.not_false, Bool.not_not, List.getElem?_cons_zero, List.getElem?_cons_succ, List.set_cons_zero, List.set_cons_succ, List.length_cons, List.length_nil, List.cons_append, List.nil_append, reduceCtorEq, List.replicate_zero, List.replicate_succ, Nat.reduceAdd, Nat.reduceSub, decide_true, decide_false, intsOf_map', blsOf_map', strsOf_map', map_int_inj, map_str_inj, map_bool_inj, map_itD_inj, itD_iff, sh_int, sh_bool, sh_none, sh_itD, sh_nil, sh_ints, sh_its, eqv_int, eqv_bool, eqv_str, eqv_itD, eqv_ints, eqv_strs, eqv_its, eqv_nil, Nat.zero_le, and_assoc, optL_some, enD_zip, List.map_map] at n ⊢
    obtain ⟨hl, n⟩ := n
    refine ⟨fn, ?_⟩
    have ok := items_ok h
    refine forGo_inv (D.py ∘ fun p : Itm × Nat => .tuple [.int (p.2 : Nat), itD p.1]) (fun (xs : List (Itm × Nat)) (ρ : DS) (_ : Unit) => ∃ (i : Nat) (s3 s4 s5 : Sl), xs = its.zipIdx.drop i ∧ i ≤ its.length ∧
      ρ = [.is (.py d), .is (.py (.list (its.map itD))), .own ((needTo its i).map .int), s3, s4, s5]) (fun p xs ρ θ h R hR => ?_) (fun ρ θ h => ?_) _ _ _ ⟨0, .no, .no, .no, rfl, Nat.zero_le _, rfl⟩
    · obtain ⟨i, s3, s4, s5, e, hi, rfl⟩ := h
      have lt : i < its.length := by
        refine Nat.lt_of_le_of_ne hi fun q => ?_
        rw [q] at e
        have : its.zipIdx.drop its.length = [] := List.drop_eq_nil_of_le (by simp)
        rw [this] at e
        cases e
      have lt' : i < its.zipIdx.length := by simpa using lt
      rw [List.drop_eq_getElem_cons lt'] at e
      injection e with e1 e2
      have ep : p = (its[i], i) := by
        rw [e1, List.getElem_zipIdx]
        simp
      subst ep
      have c1 : cutD (its.map itD) none (some (i : Int)) = (its.take i).map itD := by rw [cutD_take (by rw [List.length_map]; omega), List.map_take]
      have c2 : cutD (its.map itD) (some ((i : Int) + 1)) none = (its.drop (i + 1)).map itD := by
        have := cutD_drop (xs := its.map itD) (i := i + 1) (by rw [List.length_map]; omega)
        rw [Int.natCast_add] at this
        rw [List.map_drop]
        exact this
      have nx := fun ρ' s3 s4 s5 (h : ρ' = [.is (.py d), .is (.py (.list (its.map itD))), .own ((needTo its (i + 1)).map .int), s3, s4, s5]) => hR ρ' θ ⟨i + 1, s3, s4, s5, e2, lt, h⟩
      have al : (its.take i ++ its.drop (i + 1)).all itemOk = true := by
        rw [List.all_eq_true] at ok ⊢
        intro q hq
        rcases List.mem_append.mp hq with hq | hq
        · exact ok q (List.mem_of_mem_take hq)
        · exact ok q (List.mem_of_mem_drop hq)
      have ll : (its.take i ++ its.drop (i + 1)).length ≤ 400 := by simp; omega
      have sz : ((its.take i).map itD).length + ((its.drop (i + 1)).map itD).length ≤ sizeLine := by
        rw [List.length_map, List.length_map, ← List.length_append]
        exact le_line (by omega)
      have n0 := needTo_len its i
      simp only [Function.comp, wVar, wOwn, wC, wOp, wT, wChain, wAndT, wOrT, wNotT, wAnd, wOr, wNot, wIf, wNil, wCons, wDisp, wCall, wCall0, wNoPart, wPart, wSl, wRevL, wBlt, wItL, wItT, wItS, wRg1, wRg2, wEnum, wZip, wLR, wLR2, wYes, wM1, wFmt, wJoined, wIsi, wNeg, wNewD, wOwnCat, wPar2, wNext, wSeq, wNever, wSet, wNew, wAug, wExtend, wAppend, wPut, wFrz, wRet, wRetOwn, wRetN, wDrop, wIfS, wgName, wgTup, wUnp, wRaise, bodyEN, wLc, wFor, wSortSet, e_add_i, e_add_s, e_add_l, e_add_t, e_kadd_i, e_kadd_s, e_kadd_l, e_kadd_t, e_sub, e_kt, e_mul_i, e_mul_l, e_kmul_i, e_kmul_l, e_div, e_kdiv, e_mod, e_kmod, e_cmp, e_eq, e_ne, e_keq, e_is_n, e_is_b, e_isn_n, e_isn_b, e_non_n, e_non_l, e_non_t, e_non_i, e_non_s, e_non_b, e_non_x, e_in_l, e_in_t, e_ni_l, e_ni_t, e_kin_l, e_kin_t, e_kin_s, e_ix_l, e_ix_t, e_ix_s, e_kix_l, e_kix_t, e_kix_s, e_sl_l, e_sl_t, e_sl_s, e_len_l, e_len_t, e_len_s, e_klen_l, e_klen_t, e_klen_s, e_kany, e_list_l, e_list_t, e_tup_l, e_tup_t, e_sum, e_max, e_max2, e_min, e_kne, e_kne2, e_all, e_str, e_kstr, e_int, e_kint, e_split, e_ksplit, e_part, e_kpart, e_join, e_kjoin, e_pys0, e_pys1, e_sa0, e_sa1, e_wipe0, e_wipe1, e_js0, e_js1, e_ty_i, e_ty_b, e_ty_n, e_ty_s, e_ty_l, e_ty_t, e_isi_ii, e_isi_ib, e_isi_in, e_isi_is, e_isi_il, e_isi_it, e_isi_bi, e_isi_bb, e_isi_bn, e_isi_bs, e_isi_bl, e_isi_bt, e_isi_li, e_isi_lb, e_isi_ln, e_isi_ls, e_isi_ll, e_isi_lt, e_isi_ti, e_isi_tb, e_isi_tn, e_isi_ts, e_isi_tl, e_isi_tt, e_isi_si, e_isi_sb, e_isi_sn, e_isi_ss, e_isi_sl, e_isi_st, e_up, e_st0, e_st1, e_st2, exists_eq_left, exists_eq_left', exists_eq_right, exists_eq_right', exists_eq', exists_eq, true_and, and_true, and_self, false_and, and_false, exists_and_left, exists_and_right, exists_const, Option.some.injEq, Option.map_some, Option.map_none, Sl.is.injEq, Sl.own.injEq, D.py.injEq, D.ex.injEq, D.rf.injEq, PyData.int.injEq, PyData.bool.injEq, PyData.str.injEq, PyData.list.injEq, PyData.tuple.injEq, List.cons.injEq, if_true, if_false, eq_self, Bool.false_eq_true, Bool.true_eq_false, Bool.not_true, Bool.not_false, Bool.not_not, List.getElem?_cons_zero, List.getElem?_cons_succ, List.set_cons_zero, List.set_cons_succ, List.length_cons, List.length_nil, List.cons_append, List.nil_append, reduceCtorEq, List.replicate_zero, List.replicate_succ, Nat.reduceAdd, Nat.reduceSub, decide_true, decide_false, intsOf_map', blsOf_map', strsOf_map', map_int_inj, map_str_inj, map_bool_inj, map_itD_inj, itD_iff, sh_int, sh_bool, sh_none, sh_itD, sh_nil, sh_ints, sh_its, eqv_int, eqv_bool, eqv_str, eqv_itD, eqv_ints, eqv_strs, eqv_its, eqv_nil, Nat.zero_le, and_assoc, c1, c2, sz, ← List.map_append, List.isEmpty_map]
      rw [needTo_succ] at nx
      unfold needP at nx
      cases he : (its.take i ++ its.drop (i + 1)).isEmpty with
      | true =>
        rw [he] at nx
        simp only [wVar, wOwn, wC, wOp, wT, wChain, wAndT, wOrT, wNotT, wAnd, wOr, wNot, wIf, wNil, wCons, wDisp, wCall, wCall0, wNoPart, wPart, wSl, wRevL, wBlt, wItL, wItT, wItS, wRg1, wRg2, wEnum, wZip, wLR, wLR2, wYes, wM1, wFmt, wJoined, wIsi, wNeg, wNewD, wOwnCat, wPar2, wNext, wSeq, wNever, wSet, wNew, wAug, wExtend, wAppend, wPut, wFrz, wRet, wRetOwn, wRetN, wDrop, wIfS, wgName, wgTup, wUnp, wRaise, bodyEN, wLc, wFor, wSortSet, e_add_i, e_add_s, e_add_l, e_add_t, e_kadd_i, e_kadd_s, e_kadd_l, e_kadd_t, e_sub, e_kt, e_mul_i, e_mul_l, e_kmul_i, e_kmul_l, e_div, e_kdiv, e_mod, e_kmod, e_cmp, e_eq, e_ne, e_keq, e_is_n, e_is_b, e_isn_n, e_isn_b, e_non_n, e_non_l, e_non_t, e_non_i, e_non_s, e_non_b, e_non_x, e_in_l, e_in_t, e_ni_l, e_ni_t, e_kin_l, e_kin_t, e_kin_s, e_ix_l, e_ix_t, e_ix_s, e_kix_l, e_kix_t, e_kix_s, e_sl_l, e_sl_t, e_sl_s, e_len_l, e_len_t, e_len_s, e_klen_l, e_klen_t, e_klen_s, e_kany, e_list_l, e_list_t, e_tup_l, e_tup_t, e_sum, e_max, e_max2, e_min, e_kne, e_kne2, e_all, e_str, e_kstr, e_int, e_kint, e_split, e_ksplit, e_part, e_kpart, e_join, e_kjoin, e_pys0, e_pys1, e_sa0, e_sa1, e_wipe0, e_wipe1, e_js0, e_js1, e_ty_i, e_ty_b, e_ty_n, e_ty_s, e_ty_l, e_ty_t, e_isi_ii, e_isi_ib, e_isi_in, e_isi_is, e_isi_il, e_isi_it, e_isi_bi, e_isi_bb, e_isi_bn, e_isi_bs, e_isi_bl, e_isi_bt, e_isi_li, e_isi_lb, e_isi_ln, e_isi_ls, e_isi_ll, e_isi_lt, e_isi_ti, e_isi_tb, e_isi_tn, e_isi_ts, e_isi_tl, e_isi_tt, e_isi_si, e_isi_sb, e_isi_sn, e_isi_ss, e_isi_sl, e_isi_st, e_up, e_st0, e_st1, e_st2, exists_eq_left, exists_eq_left', exists_eq_right, exists_eq_right', exists_eq', exists_eq, true_and, and_true, and_self, false_and, and_false, exists_and_left, exists_and_right, exists_const, Option.some.injEq, Option.map_some, Option.map_none, Sl.is.injEq, Sl.own.injEq, D.py.injEq, D.ex.injEq, D.rf.injEq, PyData.int.injEq, PyData.bool.injEq, PyData.str.injEq, PyData.list.injEq, PyData.tuple.injEq, List.cons.injEq, if_true, if_false, eq_self, Bool.false_eq_true, Bool.true_eq_false, Bool.not_true, Bool.not_false, Bool.not_not, List.getElem?_cons_zero, List.getElem?_cons_succ, List.set_cons_zero, List.set_cons_succ, List.length_cons, List.length_nil, List.cons_append, List.nil_append, reduceCtorEq, List.replicate_zero, List.replicate_succ, Nat.reduceAdd, Nat.reduceSub, decide_true, decide_false, intsOf_map', blsOf_map', strsOf_map', map_int_inj, map_str_inj, map_bool_inj, map_itD_inj, itD_iff, sh_int, sh_bool, sh_none, sh_itD, sh_nil, sh_ints, sh_its, eqv_int, eqv_bool, eqv_str, eqv_itD, eqv_ints, eqv_strs, eqv_its, eqv_nil, Nat.zero_le, and_assoc, Bool.false_and] at nx ⊢
        exact nx _ _ _ _ rfl
      | false =>
        rw [he] at nx
        simp only [wVar, wOwn, wC, wOp, wT, wChain, wAndT, wOrT, wNotT, wAnd, wOr, wNot, wIf, wNil, wCons, wDisp, wCall, wCall0, wNoPart, wPart, wSl, wRevL, wBlt, wItL, wItT, wItS, wRg1, wRg2, wEnum, wZip, wLR, wLR2, wYes, wM1, wFmt, wJoined, wIsi, wNeg, wNewD, wOwnCat, wPar2, wNext, wSeq, wNever, wSet, wNew, wAug, wExtend, wAppend, wPut, wFrz, wRet, wRetOwn, wRetN, wDrop, wIfS, wgName, wgTup, wUnp, wRaise, bodyEN, wLc, wFor, wSortSet, e_add_i, e_add_s, e_add_l, e_add_t, e_kadd_i, e_kadd_s, e_kadd_l, e_kadd_t, e_sub, e_kt, e_mul_i, e_mul_l, e_kmul_i, e_kmul_l, e_div, e_kdiv, e_mod, e_kmod, e_cmp, e_eq, e_ne, e_keq, e_is_n, e_is_b, e_isn_n, e_isn_b, e_non_n, e_non_l, e_non_t, e_non_i, e_non_s, e_non_b, e_non_x, e_in_l, e_in_t, e_ni_l, e_ni_t, e_kin_l, e_kin_t, e_kin_s, e_ix_l, e_ix_t, e_ix_s, e_kix_l, e_kix_t, e_kix_s, e_sl_l, e_sl_t, e_sl_s, e_len_l, e_len_t, e_len_s, e_klen_l, e_klen_t, e_klen_s, e_kany, e_list_l, e_list_t, e_tup_l, e_tup_t, e_sum, e_max, e_max2, e_min, e_kne, e_kne2, e_all, e_str, e_kstr, e_int, e_kint, e_split, e_ksplit, e_part, e_kpart, e_join, e_kjoin, e_pys0, e_pys1, e_sa0, e_sa1, e_wipe0, e_wipe1, e_js0, e_js1, e_ty_i, e_ty_b, e_ty_n, e_ty_s, e_ty_l, e_ty_t, e_isi_ii, e_isi_ib, e_isi_in, e_isi_is, e_isi_il, e_isi_it, e_isi_bi, e_isi_bb, e_isi_bn, e_isi_bs, e_isi_bl, e_isi_bt, e_isi_li, e_isi_lb, e_isi_ln, e_isi_ls, e_isi_ll, e_isi_lt, e_isi_ti, e_isi_tb, e_isi_tn, e_isi_ts, e_isi_tl, e_isi_tt, e_isi_si, e_isi_sb, e_isi_sn, e_isi_ss, e_isi_sl, e_isi_st, e_up, e_st0, e_st1, e_st2, exists_eq_left, exists_eq_left', exists_eq_right, exists_eq_right', exists_eq', exists_eq, true_and, and_true, and_self, false_and, and_false, exists_and_left, exists_and_right, exists_const, Option.some.injEq, Option.map_some, Option.map_none, Sl.is.injEq, Sl.own.injEq, D.py.injEq, D.ex.injEq, D.rf.injEq, PyData.int.injEq, PyData.bool.injEq, PyData.str.injEq, PyData.list.injEq, PyData.tuple.injEq, List.cons.injEq, if_true, if_false, eq_self, Bool.false_eq_true, Bool.true_eq_false, Bool.not_true, Bool.not_false, Bool.not_not, List.getElem?_cons_zero, List.getElem?_cons_succ, List.set_cons_zero, List.set_cons_succ, List.length_cons, List.length_nil, List.cons_append, List.nil_append, reduceCtorEq, List.replicate_zero, List.replicate_succ, Nat.reduceAdd, Nat.reduceSub, decide_true, decide_false, intsOf_map', blsOf_map', strsOf_map', map_int_inj, map_str_inj, map_bool_inj, map_itD_inj, itD_iff, sh_int, sh_bool, sh_none, sh_itD, sh_nil, sh_ints, sh_its, eqv_int, eqv_bool, eqv_str, eqv_itD, eqv_ints, eqv_strs, eqv_its, eqv_nil, Nat.zero_le, and_assoc, Bool.true_and, sp_set_of] at nx ⊢
        refine ⟨al, ll, ok, hl, ?_⟩
        by_cases hq : setOf (its.take i ++ its.drop (i + 1)) = setOf its
        · simp only [hq, wVar, wOwn, wC, wOp, wT, wChain, wAndT, wOrT, wNotT, wAnd, wOr, wNot, wIf, wNil, wCons, wDisp, wCall, wCall0, wNoPart, wPart, wSl, wRevL, wBlt, wItL, wItT, wItS, wRg1, wRg2, wEnum, wZip, wLR, wLR2, wYes, wM1, wFmt, wJoined, wIsi, wNeg, wNewD, wOwnCat, wPar2, wNext, wSeq, wNever, wSet, wNew, wAug, wExtend, wAppend, wPut, wFrz, wRet, wRetOwn, wRetN, wDrop, wIfS, wgName, wgTup, wUnp, wRaise, bodyEN, wLc, wFor, wSortSet, e_add_i, e_add_s, e_add_l, e_add_t, e_kadd_i, e_kadd_s, e_kadd_l, e_kadd_t, e_sub, e_kt, e_mul_i, e_mul_l, e_kmul_i, e_kmul_l, e_div, e_kdiv, e_mod, e_kmod, e_cmp, e_eq, e_ne, e_keq, e_is_n, e_is_b, e_isn_n, e_isn_b, e_non_n, e_non_l, e_non_t, e_non_i, e_non_s, e_non_b, e_non_x, e_in_l, e_in_t, e_ni_l, e_ni_t, e_kin_l, e_kin_t, e_kin_s, e_ix_l, e_ix_t, e_ix_s, e_kix_l, e_kix_t, e_kix_s, e_sl_l, e_sl_t, e_sl_s, e_len_l, e_len_t, e_len_s, e_klen_l, e_klen_t, e_klen_s, e_kany, e_list_l, e_list_t, e_tup_l, e_tup_t, e_sum, e_max, e_max2, e_min, e_kne, e_kne2, e_all, e_str, e_kstr, e_int, e_kint, e_split, e_ksplit, e_part, e_kpart, e_join, e_kjoin, e_pys0, e_pys1, e_sa0, e_sa1, e_wipe0, e_wipe1, e_js0, e_js1, e_ty_i, e_ty_b, e_ty_n, e_ty_s, e_ty_l, e_ty_t, e_isi_ii, e_isi_ib, e_isi_in, e_isi_is, e_isi_il, e_isi_it, e_isi_bi, e_isi_bb, e_isi_bn, e_isi_bs, e_isi_bl, e_isi_bt, e_isi_li, e_isi_lb, e_isi_ln, e_isi_ls, e_isi_ll, e_isi_lt, e_isi_ti, e_isi_tb, e_isi_tn, e_isi_ts, e_isi_tl, e_isi_tt, e_isi_si, e_isi_sb, e_isi_sn, e_isi_ss, e_isi_sl, e_isi_st, e_up, e_st0, e_st1, e_st2, exists_eq_left, exists_eq_left', exists_eq_right, exists_eq_right', exists_eq', exists_eq, true_and, and_true, and_self, false_and, and_false, exists_and_left, exists_and_right, exists_const, Option.some.injEq, Option.map_some, Option.map_none, Sl.is.injEq, Sl.own.injEq, D.py.injEq, D.ex.injEq, D.rf.injEq, PyData.int.injEq, PyData.bool.injEq, PyData.str.injEq, PyData.list.injEq, PyData.tuple.injEq, List.cons.injEq, if_true, if_false, eq_self, Bool.false_eq_true, Bool.true_eq_false, Bool.not_true, Bool.not_false, Bool.not_not, List.getElem?_cons_zero, List.getElem?_cons_succ, List.set_cons_zero, List.set_cons_succ, List.length_cons, List.length_nil, List.cons_append, List.nil_append, reduceCtorEq, List.replicate_zero, List.replicate_succ, Nat.reduceAdd, Nat.reduceSub, decide_true, decide_false, intsOf_map', blsOf_map', strsOf_map', map_int_inj, map_str_inj, map_bool_inj, map_itD_inj, itD_iff, sh_int, sh_bool, sh_none, sh_itD, sh_nil, sh_ints, sh_its, eqv_int, eqv_bool, eqv_str, eqv_itD, eqv_ints, eqv_strs, eqv_its, eqv_nil, Nat.zero_le, and_assoc] at nx ⊢
          refine ⟨?_, nx _ _ _ _ (by rw [List.map_append (f := PyData.int) (l₁ := needTo its i)]; rfl)⟩
          rw [List.length_map]
          have := le_line (n := its.length) (by omega)
          omega
        · simp only [hq, wVar, wOwn, wC, wOp, wT, wChain, wAndT, wOrT, wNotT, wAnd, wOr, wNot, wIf, wNil, wCons, wDisp, wCall, wCall0, wNoPart, wPart, wSl, wRevL, wBlt, wItL, wItT, wItS, wRg1, wRg2, wEnum, wZip, wLR, wLR2, wYes, wM1, wFmt, wJoined, wIsi, wNeg, wNewD, wOwnCat, wPar2, wNext, wSeq, wNever, wSet, wNew, wAug, wExtend, wAppend, wPut, wFrz, wRet, wRetOwn, wRetN, wDrop, wIfS, wgName, wgTup, wUnp, wRaise, bodyEN, wLc, wFor, wSortSet, e_add_i, e_add_s, e_add_l, e_add_t, e_kadd_i, e_kadd_s, e_kadd_l, e_kadd_t, e_sub, e_kt, e_mul_i, e_mul_l, e_kmul_i, e_kmul_l, e_div, e_kdiv, e_mod, e_kmod, e_cmp, e_eq, e_ne, e_keq, e_is_n, e_is_b, e_isn_n, e_isn_b, e_non_n, e_non_l, e_non_t, e_non_i, e_non_s, e_non_b, e_non_x, e_in_l, e_in_t, e_ni_l, e_ni_t, e_kin_l, e_kin_t, e_kin_s, e_ix_l, e_ix_t, e_ix_s, e_kix_l, e_kix_t, e_kix_s, e_sl_l, e_sl_t, e_sl_s, e_len_l, e_len_t, e_len_s, e_klen_l, e_klen_t, e_klen_s, e_kany, e_list_l, e_list_t, e_tup_l, e_tup_t, e_sum, e_max, e_max2, e_min, e_kne, e_kne2, e_all, e_str, e_kstr, e_int, e_kint, e_split, e_ksplit, e_part, e_kpart, e_join, e_kjoin, e_pys0, e_pys1, e_sa0, e_sa1, e_wipe0, e_wipe1, e_js0, e_js1, e_ty_i, e_ty_b, e_ty_n, e_ty_s, e_ty_l, e_ty_t, e_isi_ii, e_isi_ib, e_isi_in, e_isi_is, e_isi_il, e_isi_it, e_isi_bi, e_isi_bb, e_isi_bn, e_isi_bs, e_isi_bl, e_isi_bt, e_isi_li, e_isi_lb, e_isi_ln, e_isi_ls, e_isi_ll, e_isi_lt, e_isi_ti, e_isi_tb, e_isi_tn, e_isi_ts, e_isi_tl, e_isi_tt, e_isi_si, e_isi_sb, e_isi_sn, e_isi_ss, e_isi_sl, e_isi_st, e_up, e_st0, e_st1, e_st2, exists_eq_left, exists_eq_left', exists_eq_right, exists_eq_right', exists_eq', exists_eq, true_and, and_true, and_self, false_and, and_false, exists_and_left, exists_and_right, exists_const, Option.some.injEq, Option.map_some, Option.map_none, Sl.is.injEq, Sl.own.injEq, D.py.injEq, D.ex.injEq, D.rf.injEq, PyData.int.injEq, PyData.bool.injEq, PyData.str.injEq, PyData.list.injEq, PyData.tuple.injEq, List.cons.injEq, if_true, if_false, eq_self, Bool.false_eq_true, Bool.true_eq_false, Bool.not_true, Bool.not_false, Bool.not_not, List.getElem?_cons_zero, List.getElem?_cons_succ, List.set_cons_zero, List.set_cons_succ, List.length_cons, List.length_nil, List.cons_append, List.nil_append, reduceCtorEq, List.replicate_zero, List.replicate_succ, Nat.reduceAdd, Nat.reduceSub, decide_true, decide_false, intsOf_map', blsOf_map', strsOf_map', map_int_inj, map_str_inj, map_bool_inj, map_itD_inj, itD_iff, sh_int, sh_bool, sh_none, sh_itD, sh_nil, sh_ints, sh_its, eqv_int, eqv_bool, eqv_str, eqv_itD, eqv_ints, eqv_strs, eqv_its, eqv_nil, Nat.zero_le, and_assoc] at nx ⊢
          exact nx _ _ _ _ rfl
    · obtain ⟨i, s3, s4, s5, e, hi, rfl⟩ := h
      have : i = its.length := by
        have := congrArg List.length e
        simp at this
        omega
      subst this
      simp only [wVar, wOwn, wC, wOp, wT, wChain, wAndT, wOrT, wNotT, wAnd, wOr, wNot, wIf, wNil, wCons, wDisp, wCall, wCall0, wNoPart, wPart, wSl, wRevL, wBlt, wItL, wItT, wItS, wRg1, wRg2, wEnum, wZip, wLR, wLR2, wYes, wM1, wFmt, wJoined, wIsi, wNeg, wNewD, wOwnCat, wPar2, wNext, wSeq, wNever, wSet, wNew, wAug, wExtend, wAppend, wPut, wFrz, wRet, wRetOwn, wRetN, wDrop, wIfS, wgName, wgTup, wUnp, wRaise, bodyEN, wLc, wFor, wSortSet, e_add_i, e_add_s, e_add_l, e_add_t, e_kadd_i, e_kadd_s, e_kadd_l, e_kadd_t, e_sub, e_kt, e_mul_i, e_mul_l, e_kmul_i, e_kmul_l, e_div, e_kdiv, e_mod, e_kmod, e_cmp, e_eq, e_ne, e_keq, e_is_n, e_is_b, e_isn_n, e_isn_b, e_non_n, e_non_l, e_non_t, e_non_i, e_non_s, e_non_b, e_non_x, e_in_l, e_in_t, e_ni_l, e_ni_t, e_kin_l, e_kin_t, e_kin_s, e_ix_l, e_ix_t, e_ix_s, e_kix_l, e_kix_t, e_kix_s, e_sl_l, e_sl_t, e_sl_s, e_len_l, e_len_t, e_len_s, e_klen_l, e_klen_t, e_klen_s, e_kany, e_list_l, e_list_t, e_tup_l, e_tup_t, e_sum, e_max, e_max2, e_min, e_kne, e_kne2, e_all, e_str, e_kstr, e_int, e_kint, e_split, e_ksplit, e_part, e_kpart, e_join, e_kjoin, e_pys0, e_pys1, e_sa0, e_sa1, e_wipe0, e_wipe1, e_js0, e_js1, e_ty_i, e_ty_b, e_ty_n, e_ty_s, e_ty_l, e_ty_t, e_isi_ii, e_isi_ib, e_isi_in, e_isi_is, e_isi_il, e_isi_it, e_isi_bi, e_isi_bb, e_isi_bn, e_isi_bs, e_isi_bl, e_isi_bt, e_isi_li, e_isi_lb, e_isi_ln, e_isi_ls, e_isi_ll, e_isi_lt, e_isi_ti, e_isi_tb, e_isi_tn, e_isi_ts, e_isi_tl, e_isi_tt, e_isi_si, e_isi_sb, e_isi_sn, e_isi_ss, e_isi_sl, e_isi_st, e_up, e_st0, e_st1, e_st2, exists_eq_left, exists_eq_left', exists_eq_right, exists_eq_right', exists_eq', exists_eq, true_and, and_true, and_self, false_and, and_false, exists_and_left, exists_and_right, exists_const, Option.some.injEq, Option.map_some, Option.map_none, Sl.is.injEq, Sl.own.injEq, D.py.injEq, D.ex.injEq, D.rf.injEq, PyData.int.injEq, PyData.bool.injEq, PyData.str.injEq, PyData.list.injEq, PyData.tuple.injEq, List.cons.injEq, if_true, if_false, eq_self, Bool.false_eq_true, Bool.true_eq_false, Bool.not_true, Bool.not_false, Bool.not_not, List.getElem?_cons_zero, List.getElem?_cons_succ, List.set_cons_zero, List.set_cons_succ, List.length_cons, List.length_nil, List.cons_append, List.nil_append, reduceCtorEq, List.replicate_zero, List.replicate_succ, Nat.reduceAdd, Nat.reduceSub, decide_true, decide_false, intsOf_map', blsOf_map', strsOf_map', map_int_inj, map_str_inj, map_bool_inj, map_itD_inj, itD_iff, sh_int, sh_bool, sh_none, sh_itD, sh_nil, sh_ints, sh_its, eqv_int, eqv_bool, eqv_str, eqv_itD, eqv_ints, eqv_strs, eqv_its, eqv_nil, Nat.zero_le, and_assoc]
      exact n
end RT
end
section
set_option Elab.async false
set_option linter.all false
set_option maxRecDepth 100000
set_option maxHeartbeats 4000000
namespace RT
open PySem PySem.Spec PyProof.Rows L2
/-! ### the law's own defs -/
def spd_pick : Spec DrawSt := fun ds θ N _ => ∃ (a : Addr) (cs : List PyData), ds = [.rf a, .py (.list cs)] ∧ θ = .on a ∧ cs ≠ [] ∧ cs.length ≤ 1000000 ∧ ∀ d ∈ cs, N (.py d) (.on a)
def w__law_pick : WS DrawSt :=
  wRet (wOp fIx kIx (wVar 1) (wCall spd_draw (wCons (wVar 0) (wCons (wBlt fLen kLen (wCons (wVar 1) (wNil))) (wNil)))))
theorem atI_mem {α : Type} {xs : List α} {i : Int} (h0 : 0 ≤ i) (h1 : i < xs.length) : ∃ x ∈ xs, atI xs i = some x := by
  have : xs[i.toNat]? = some (xs[i.toNat]'(by omega)) := List.getElem?_eq_getElem _
  exact ⟨_, List.getElem_mem _, atI_nat h0 this⟩
theorem law_pick : ∀ ds θ N Nx, spd_pick ds θ N Nx → w__law_pick (bodyEN N Nx) (startD 2 ds) θ := by
  rintro ds θ N Nx ⟨a, cs, rfl, rfl, ne, hl, n⟩
  simp only [w__law_pick, spd_draw, wVar, wOwn, wC, wOp, wT, wChain, wAndT, wOrT, wNotT, wAnd, wOr, wNot, wIf, wNil, wCons, wDisp, wCall, wCall0, wNoPart, wPart, wSl, wRevL, wBlt, wItL, wItT, wItS, wRg1, wRg2, wEnum, wZip, wLR, wLR2, wYes, wM1, wFmt, wJoined, wIsi, wNeg, wNewD, wOwnCat, wPar2, wNext, wSeq, wNever, wSet, wNew, wAug, wExtend, wAppend, wPut, wFrz, wRet, wRetOwn, wRetN, wDrop, wIfS, wgName, wgTup, wUnp, wRaise, bodyEN, wLc, wFor, wSortSet, e_add_i, e_add_s, e_add_l, e_add_t, e_kadd_i, e_kadd_s, e_kadd_l, e_kadd_t, e_sub, e_kt, e_mul_i, e_mul_l, e_kmul_i, e_kmul_l, e_div, e_kdiv, e_mod, e_kmod, e_cmp, e_eq, e_ne, e_keq, e_is_n, e_is_b, e_isn_n, e_isn_b, e_non_n, e_non_l, e_non_t, e_non_i, e_non_s, e_non_b, e_non_x, e_in_l, e_in_t, e_ni_l, e_ni_t, e_kin_l, e_kin_t, e_kin_s, e_ix_l, e_ix_t, e_ix_s, e_kix_l, e_kix_t, e_kix_s, e_sl_l, e_sl_t, e_sl_s, e_len_l, e_len_t, e_len_s, e_klen_l, e_klen_t, e_klen_s, e_kany, e_list_l, e_list_t, e_tup_l, e_tup_t, e_sum, e_max, e_max2, e_min, e_kne, e_kne2, e_all, e_str, e_kstr, e_int, e_kint, e_split, e_ksplit, e_part, e_kpart, e_join, e_kjoin, e_pys0, e_pys1, e_sa0, e_sa1, e_wipe0, e_wipe1, e_js0, e_js1, e_ty_i, e_ty_b, e_ty_n, e_ty_s, e_ty_l, e_ty_t, e_isi_ii, e_isi_ib, e_isi_in, e_isi_is, e_isi_il, e_isi_it, e_isi_bi, e_isi_bb, e_isi_bn, e_isi_bs, e_isi_bl, e_isi_bt, e_isi_li, e_isi_lb, e_isi_ln, e_isi_ls, e_isi_ll, e_isi_lt, e_isi_ti, e_isi_tb, e_isi_tn, e_isi_ts, e_isi_tl, e_isi_tt, e_isi_si, e_isi_sb, e_isi_sn, e_isi_ss, e_isi_sl, e_isi_st, e_up, e_st0, e_st1, e_st2, exists_eq_left, exists_eq_left', exists_eq_right, exists_eq_right', exists_eq', exists_eq, true_and, and_true, and_self, false_and, and_false, exists_and_left, exists_and_right, exists_const, Option.some.injEq, Option.map_some, Option.map_none, Sl.is.injEq, Sl.own.injEq, D.py.injEq, D.ex.injEq, D.rf.injEq, PyData.int.injEq, PyData.bool.injEq, PyData.str.injEq, PyData.list.injEq, PyData.tuple.injEq, List.cons.injEq, if_true, if_false, eq_self, Bool.false_eq_true, Bool.true_eq_false, Bool.not_true, Bool.not_false, Bool.not_not, List.getElem?_cons_zero, List.getElem?_cons_succ, List.set_cons_zero, List.set_cons_succ, List.length_cons, List.length_nil, List.cons_append, List.nil_append, reduceCtorEq, List.replicate_zero, List.replicate_succ, Nat.reduceAdd, Nat.reduceSub, decide_true, decide_false, intsOf_map', blsOf_map', strsOf_map', map_int_inj, map_str_inj, map_bool_inj, map_itD_inj, itD_iff, sh_int, sh_bool, sh_none, sh_itD, sh_nil, sh_ints, sh_its, eqv_int, eqv_bool, eqv_str, eqv_itD, eqv_ints, eqv_strs, eqv_its, eqv_nil, Nat.zero_le, and_assoc]
  have h0 : 0 < cs.length := List.length_pos_iff.mpr ne
  refine ⟨by omega, by omega, fun i i0 i1 => ?_⟩
  obtain ⟨x, hx, e⟩ := atI_mem i0 i1
  simp only [e, wVar, wOwn, wC, wOp, wT, wChain, wAndT, wOrT, wNotT, wAnd, wOr, wNot, wIf, wNil, wCons, wDisp, wCall, wCall0, wNoPart, wPart, wSl, wRevL, wBlt, wItL, wItT, wItS, wRg1, wRg2, wEnum, wZip, wLR, wLR2, wYes, wM1, wFmt, wJoined, wIsi, wNeg, wNewD, wOwnCat, wPar2, wNext, wSeq, wNever, wSet, wNew, wAug, wExtend, wAppend, wPut, wFrz, wRet, wRetOwn, wRetN, wDrop, wIfS, wgName, wgTup, wUnp, wRaise, bodyEN, wLc, wFor, wSortSet, e_add_i, e_add_s, e_add_l, e_add_t, e_kadd_i, e_kadd_s, e_kadd_l, e_kadd_t, e_sub, e_kt, e_mul_i, e_mul_l, e_kmul_i, e_kmul_l, e_div, e_kdiv, e_mod, e_kmod, e_cmp, e_eq, e_ne, e_keq, e_is_n, e_is_b, e_isn_n, e_isn_b, e_non_n, e_non_l, e_non_t, e_non_i, e_non_s, e_non_b, e_non_x, e_in_l, e_in_t, e_ni_l, e_ni_t, e_kin_l, e_kin_t, e_kin_s, e_ix_l, e_ix_t, e_ix_s, e_kix_l, e_kix_t, e_kix_s, e_sl_l, e_sl_t, e_sl_s, e_len_l, e_len_t, e_len_s, e_klen_l, e_klen_t, e_klen_s, e_kany, e_list_l, e_list_t, e_tup_l, e_tup_t, e_sum, e_max, e_max2, e_min, e_kne, e_kne2, e_all, e_str, e_kstr, e_int, e_kint, e_split, e_ksplit, e_part, e_kpart, e_join, e_kjoin, e_pys0, e_pys1, e_sa0, e_sa1, e_wipe0, e_wipe1, e_js0, e_js1, e_ty_i, e_ty_b, e_ty_n, e_ty_s, e_ty_l, e_ty_t, e_isi_ii, e_isi_ib, e_isi_in, e_isi_is, e_isi_il, e_isi_it, e_isi_bi, e_isi_bb, e_isi_bn, e_isi_bs, e_isi_bl, e_isi_bt, e_isi_li, e_isi_lb, e_isi_ln, e_isi_ls, e_isi_ll, e_isi_lt, e_isi_ti, e_isi_tb, e_isi_tn, e_isi_ts, e_isi_tl, e_isi_tt, e_isi_si, e_isi_sb, e_isi_sn, e_isi_ss, e_isi_sl, e_isi_st, e_up, e_st0, e_st1, e_st2, exists_eq_left, exists_eq_left', exists_eq_right, exists_eq_right', exists_eq', exists_eq, true_and, and_true, and_self, false_and, and_false, exists_and_left, exists_and_right, exists_const, Option.some.injEq, Option.map_some, Option.map_none, Sl.is.injEq, Sl.own.injEq, D.py.injEq, D.ex.injEq, D.rf.injEq, PyData.int.injEq, PyData.bool.injEq, PyData.str.injEq, PyData.list.injEq, PyData.tuple.injEq, List.cons.injEq, if_true, if_false, eq_self, Bool.false_eq_true, Bool.true_eq_false, Bool.not_true, Bool.not_false, Bool.not_not, List.getElem?_cons_zero, List.getElem?_cons_succ, List.set_cons_zero, List.set_cons_succ, List.length_cons, List.length_nil, List.cons_append, List.nil_append, reduceCtorEq, List.replicate_zero, List.replicate_succ, Nat.reduceAdd, Nat.reduceSub, decide_true, decide_false, intsOf_map', blsOf_map', strsOf_map', map_int_inj, map_str_inj, map_bool_inj, map_itD_inj, itD_iff, sh_int, sh_bool, sh_none, sh_itD, sh_nil, sh_ints, sh_its, eqv_int, eqv_bool, eqv_str, eqv_itD, eqv_ints, eqv_strs, eqv_its, eqv_nil, Nat.zero_le, and_assoc]
  exact n x hx
def sp__law_true : Spec0 := fun ds N _ => ∃ b c : Bool, ds = [.py (.bool b), .py (.bool c)] ∧ N (.py (.bool (decide (b = c))))
def w__law_true : WS Unit :=
  wRet (wAnd (wIsi "bool" (wVar 0)) (wOp fEq kEq (wVar 0) (wVar 1)))
theorem law_true : ∀ ds θ N Nx, sp__law_true.up ds θ N Nx → w__law_true (bodyEN N Nx) (startD 2 ds) θ := by
  rintro ds θ N Nx ⟨b, c, rfl, n⟩
  simp only [w__law_true, wVar, wOwn, wC, wOp, wT, wChain, wAndT, wOrT, wNotT, wAnd, wOr, wNot, wIf, wNil, wCons, wDisp, wCall, wCall0, wNoPart, wPart, wSl, wRevL, wBlt, wItL, wItT, wItS, wRg1, wRg2, wEnum, wZip, wLR, wLR2, wYes, wM1, wFmt, wJoined, wIsi, wNeg, wNewD, wOwnCat, wPar2, wNext, wSeq, wNever, wSet, wNew, wAug, wExtend, wAppend, wPut, wFrz, wRet, wRetOwn, wRetN, wDrop, wIfS, wgName, wgTup, wUnp, wRaise, bodyEN, wLc, wFor, wSortSet, e_add_i, e_add_s, e_add_l, e_add_t, e_kadd_i, e_kadd_s, e_kadd_l, e_kadd_t, e_sub, e_kt, e_mul_i, e_mul_l, e_kmul_i, e_kmul_l, e_div, e_kdiv, e_mod, e_kmod, e_cmp, e_eq, e_ne, e_keq, e_is_n, e_is_b, e_isn_n, e_isn_b, e_non_n, e_non_l, e_non_t, e_non_i, e_non_s, e_non_b, e_non_x, e_in_l, e_in_t, e_ni_l, e_ni_t, e_kin_l, e_kin_t, e_kin_s, e_ix_l, e_ix_t, e_ix_s, e_kix_l, e_kix_t, e_kix_s, e_sl_l, e_sl_t, e_sl_s, e_len_l, e_len_t, e_len_s, e_klen_l, e_klen_t, e_klen_s, e_kany, e_list_l, e_list_t, e_tup_l, e_tup_t, e_sum, e_max, e_max2, e_min, e_kne, e_kne2, e_all, e_str, e_kstr, e_int, e_kint, e_split, e_ksplit, e_part, e_kpart, e_join, e_kjoin, e_pys0, e_pys1, e_sa0, e_sa1, e_wipe0, e_wipe1, e_js0, e_js1, e_ty_i, e_ty_b, e_ty_n, e_ty_s, e_ty_l, e_ty_t, e_isi_ii, e_isi_ib, e_isi_in, e_isi_is, e_isi_il, e_isi_it, e_isi_bi, e_isi_bb, e_isi_bn, e_isi_bs, e_isi_bl, e_isi_bt, e_isi_li, e_isi_lb, e_isi_ln, e_isi_ls, e_isi_ll, e_isi_lt, e_isi_ti, e_isi_tb, e_isi_tn, e_isi_ts, e_isi_tl, e_isi_tt, e_isi_si, e_isi_sb, e_isi_sn, e_isi_ss, e_isi_sl, e_isi_st, e_up, e_st0, e_st1, e_st2, exists_eq_left, exists_eq_left', exists_eq_right, exists_eq_right', exists_eq', exists_eq, true_and, and_true, and_self, false_and, and_false, exists_and_left, exists_and_right, exists_const, Option.some.injEq, Option.map_some, Option.map_none, Sl.is.injEq, Sl.own.injEq, D.py.injEq, D.ex.injEq, D.rf.injEq, PyData.int.injEq, PyData.bool.injEq, PyData.str.injEq, PyData.list.injEq, PyData.tuple.injEq, List.cons.injEq, if_true, if_false, eq_self, Bool.false_eq_true, Bool.true_eq_false, Bool.not_true, Bool.not_false, Bool.not_not, List.getElem?_cons_zero, List.getElem?_cons_succ, List.set_cons_zero, List.set_cons_succ, List.length_cons, List.length_nil, List.cons_append, List.nil_append, reduceCtorEq, List.replicate_zero, List.replicate_succ, Nat.reduceAdd, Nat.reduceSub, decide_true, decide_false, intsOf_map', blsOf_map', strsOf_map', map_int_inj, map_str_inj, map_bool_inj, map_itD_inj, itD_iff, sh_int, sh_bool, sh_none, sh_itD, sh_nil, sh_ints, sh_its, eqv_int, eqv_bool, eqv_str, eqv_itD, eqv_ints, eqv_strs, eqv_its, eqv_nil, Nat.zero_le, and_assoc]
  exact n
/-- the numbers up to m -/
def upTo (m : Int) : List Int := rgI 1 m.toNat
def spd_set : Spec DrawSt := fun ds θ N _ => ∃ (a : Addr) (m : Int), ds = [.rf a, .py (.int m)] ∧ θ = .on a ∧ 1 ≤ m ∧ m ≤ 1000 ∧ ∀ ns ∈ subs (upTo m), ns ≠ [] → N (.py (.list (ns.map .int))) (.on a)
def w__law_set : WS DrawSt :=
  wSeq (wNew 2) (wSeq (wSet 3 (wCall spd_pick (wCons (wVar 0) (wCons (wDisp .list (wCons (wC (.int 2)) (wCons (wC (.int 2)) (wCons (wC (.int 4)) (wNil))))) (wNil))))) (wSeq (wFor (wRg2 (wCons (wC (.int 1)) (wCons (wOp fAdd kAdd (wVar 1) (wC (.int 1))) (wNil)))) (wgName 4) (wIfS (wT (wOp fGt kTrue (wCall spd_draw (wCons (wVar 0) (wCons (wVar 3) (wNil)))) (wC (.int 0)))) (wAppend 2 (wVar 4)) (wNext))) (wFrz 2 (wRet (wIf (wT (wOp fNe kEq (wVar 2) (wDisp .list (wNil)))) (wVar 2) (wDisp .list (wCons (wOp fAdd kAdd (wC (.int 1)) (wCall spd_draw (wCons (wVar 0) (wCons (wVar 1) (wNil))))) (wNil))))))))
theorem mem_upTo {m k : Int} (h : 1 ≤ m) : k ∈ upTo m ↔ 1 ≤ k ∧ k ≤ m := by
  unfold upTo rgI
  rw [List.mem_map]
  constructor
  · rintro ⟨i, hi, rfl⟩
    have := List.mem_range.mp hi
    omega
  · intro h
    exact ⟨(k - 1).toNat, List.mem_range.mpr (by omega), by omega⟩
theorem sub_snoc {α : Type} {ys xs zs : List α} {x : α} (h : ys.Sublist xs) (e : zs = xs ++ [x]) : (ys ++ [x]).Sublist zs ∧ ys.Sublist zs := by
  subst e
  exact ⟨h.append (List.Sublist.refl _), h.trans (List.sublist_append_left _ _)⟩
theorem law_set : ∀ ds θ N Nx, spd_set ds θ N Nx → w__law_set (bodyEN N Nx) (startD 5 ds) θ := by
  rintro ds θ N Nx ⟨a, m, rfl, rfl, m1, m2, n⟩
  have l3 : (3 ≤ sizeLine) = True := eq_true (by decide)
  have l1 : (1 ≤ sizeLine) = True := eq_true (by decide)
  simp only [w__law_set, spd_pick, l3, wVar, wOwn, wC, wOp, wT, wChain, wAndT, wOrT, wNotT, wAnd, wOr, wNot, wIf, wNil, wCons, wDisp, wCall, wCall0, wNoPart, wPart, wSl, wRevL, wBlt, wItL, wItT, wItS, wRg1, wRg2, wEnum, wZip, wLR, wLR2, wYes, wM1, wFmt, wJoined, wIsi, wNeg, wNewD, wOwnCat, wPar2, wNext, wSeq, wNever, wSet, wNew, wAug, wExtend, wAppend, wPut, wFrz, wRet, wRetOwn, wRetN, wDrop, wIfS, wgName, wgTup, wUnp, wRaise, bodyEN, wLc, wFor, wSortSet, e_add_i, e_add_s, e_add_l, e_add_t, e_kadd_i, e_kadd_s, e_kadd_l, e_kadd_t, e_sub, e_kt, e_mul_i, e_mul_l, e_kmul_i, e_kmul_l, e_div, e_kdiv, e_mod, e_kmod, e_cmp, e_eq, e_ne, e_keq, e_is_n, e_is_b, e_isn_n, e_isn_b, e_non_n, e_non_l, e_non_t, e_non_i, e_non_s, e_non_b, e_non_x, e_in_l, e_in_t, e_ni_l, e_ni_t, e_kin_l, e_kin_t, e_kin_s, e_ix_l, e_ix_t, e_ix_s, e_kix_l, e_kix_t, e_kix_s, e_sl_l, e_sl_t, e_sl_s, e_len_l, e_len_t, e_len_s, e_klen_l, e_klen_t, e_klen_s, e_kany, e_list_l, e_list_t, e_tup_l, e_tup_t, e_sum, e_max, e_max2, e_min, e_kne, e_kne2, e_all, e_str, e_kstr, e_int, e_kint, e_split, e_ksplit, e_part, e_kpart, e_join, e_kjoin, e_pys0, e_pys1, e_sa0, e_sa1, e_wipe0, e_wipe1, e_js0, e_js1, e_ty_i, e_ty_b, e_ty_n, e_ty_s, e_ty_l, e_ty_t, e_isi_ii, e_isi_ib, e_isi_in, e_isi_is, e_isi_il, e_isi_it, e_isi_bi, e_isi_bb, e_isi_bn, e_isi_bs, e_isi_bl, e_isi_bt, e_isi_li, e_isi_lb, e_isi_ln, e_isi_ls, e_isi_ll, e_isi_lt, e_isi_ti, e_isi_tb, e_isi_tn, e_isi_ts, e_isi_tl, e_isi_tt, e_isi_si, e_isi_sb, e_isi_sn, e_isi_ss, e_isi_sl, e_isi_st, e_up, e_st0, e_st1, e_st2, exists_eq_left, exists_eq_left', exists_eq_right, exists_eq_right', exists_eq', exists_eq, true_and, and_true, and_self, false_and, and_false, exists_and_left, exists_and_right, exists_const, Option.some.injEq, Option.map_some, Option.map_none, Sl.is.injEq, Sl.own.injEq, D.py.injEq, D.ex.injEq, D.rf.injEq, PyData.int.injEq, PyData.bool.injEq, PyData.str.injEq, PyData.list.injEq, PyData.tuple.injEq, List.cons.injEq, if_true, if_false, eq_self, Bool.false_eq_true, Bool.true_eq_false, Bool.not_true, Bool.not_false, Bool.not_not, List.getElem?_cons_zero, List.getElem?_cons_succ, List.set_cons_zero, List.set_cons_succ, List.length_cons, List.length_nil, List.cons_append, List.nil_append, reduceCtorEq, List.replicate_zero, List.replicate_succ, Nat.reduceAdd, Nat.reduceSub, decide_true, decide_false, intsOf_map', blsOf_map', strsOf_map', map_int_inj, map_str_inj, map_bool_inj, map_itD_inj, itD_iff, sh_int, sh_bool, sh_none, sh_itD, sh_nil, sh_ints, sh_its, eqv_int, eqv_bool, eqv_str, eqv_itD, eqv_ints, eqv_strs, eqv_its, eqv_nil, Nat.zero_le, and_assoc, rgD_eq, List.map_map]
  refine ⟨by simp, by simp, fun d hd => ?_⟩
  obtain ⟨w, rfl, w1, w2⟩ : ∃ w : Int, d = .int w ∧ 0 < w ∧ w < 10 := by
    simp at hd
    rcases hd with rfl | rfl
    · exact ⟨2, rfl, by omega, by omega⟩
    · exact ⟨4, rfl, by omega, by omega⟩
  refine ⟨by omega, by omega, by omega, by omega, ?_⟩
  have em : (m + 1 - 1).toNat = m.toNat := by omega
  rw [em]
  refine forGo_inv (D.py ∘ PyData.int) (fun (xs : List Int) (ρ : DS) (θ : DrawSt) => θ = .on a ∧ ∃ (ys zs : List Int) (s : Sl), upTo m = zs ++ xs ∧ ys.Sublist zs ∧ ρ = [.is (.rf a), .is (.py (.int m)), .own (ys.map .int), .is (.py (.int w)), s])
    (fun q xs ρ θ h R hR => ?_) (fun ρ θ h => ?_) _ _ _ ⟨rfl, [], [], .no, rfl, .slnil, rfl⟩
  · obtain ⟨rfl, ys, zs, s, e, hy, rfl⟩ := h
    have hz : ys.length < 1000 := by
      have h1 := hy.length_le
      have h2 := congrArg List.length e
      simp [upTo, rgI] at h2
      omega
    simp only [spd_draw, Function.comp, wVar, wOwn, wC, wOp, wT, wChain, wAndT, wOrT, wNotT, wAnd, wOr, wNot, wIf, wNil, wCons, wDisp, wCall, wCall0, wNoPart, wPart, wSl, wRevL, wBlt, wItL, wItT, wItS, wRg1, wRg2, wEnum, wZip, wLR, wLR2, wYes, wM1, wFmt, wJoined, wIsi, wNeg, wNewD, wOwnCat, wPar2, wNext, wSeq, wNever, wSet, wNew, wAug, wExtend, wAppend, wPut, wFrz, wRet, wRetOwn, wRetN, wDrop, wIfS, wgName, wgTup, wUnp, wRaise, bodyEN, wLc, wFor, wSortSet, e_add_i, e_add_s, e_add_l, e_add_t, e_kadd_i, e_kadd_s, e_kadd_l, e_kadd_t, e_sub, e_kt, e_mul_i, e_mul_l, e_kmul_i, e_kmul_l, e_div, e_kdiv, e_mod, e_kmod, e_cmp, e_eq, e_ne, e_keq, e_is_n, e_is_b, e_isn_n, e_isn_b, e_non_n, e_non_l, e_non_t, e_non_i, e_non_s, e_non_b, e_non_x, e_in_l, e_in_t, e_ni_l, e_ni_t, e_kin_l, e_kin_t, e_kin_s, e_ix_l, e_ix_t, e_ix_s, e_kix_l, e_kix_t, e_kix_s, e_sl_l, e_sl_t, e_sl_s, e_len_l, e_len_t, e_len_s, e_klen_l, e_klen_t, e_klen_s, e_kany, e_list_l, e_list_t, e_tup_l, e_tup_t, e_sum, e_max, e_max2, e_min, e_kne, e_kne2, e_all, e_str, e_kstr, e_int, e_kint, e_split, e_ksplit, e_part, e_kpart, e_join, e_kjoin, e_pys0, e_pys1, e_sa0, e_sa1, e_wipe0, e_wipe1, e_js0, e_js1, e_ty_i, e_ty_b, e_ty_n, e_ty_s, e_ty_l, e_ty_t, e_isi_ii, e_isi_ib, e_isi_in, e_isi_is, e_isi_il, e_isi_it, e_isi_bi, e_isi_bb, e_isi_bn, e_isi_bs, e_isi_bl, e_isi_bt, e_isi_li, e_isi_lb, e_isi_ln, e_isi_ls, e_isi_ll, e_isi_lt, e_isi_ti, e_isi_tb, e_isi_tn, e_isi_ts, e_isi_tl, e_isi_tt, e_isi_si, e_isi_sb, e_isi_sn, e_isi_ss, e_isi_sl, e_isi_st, e_up, e_st0, e_st1, e_st2, exists_eq_left, exists_eq_left', exists_eq_right, exists_eq_right', exists_eq', exists_eq, true_and, and_true, and_self, false_and, and_false, exists_and_left, exists_and_right, exists_const, Option.some.injEq, Option.map_some, Option.map_none, Sl.is.injEq, Sl.own.injEq, D.py.injEq, D.ex.injEq, D.rf.injEq, PyData.int.injEq, PyData.bool.injEq, PyData.str.injEq, PyData.list.injEq, PyData.tuple.injEq, List.cons.injEq, if_true, if_false, eq_self, Bool.false_eq_true, Bool.true_eq_false, Bool.not_true, Bool.not_false, Bool.not_not, List.getElem?_cons_zero, List.getElem?_cons_succ, List.set_cons_zero, List.set_cons_succ, List.length_cons, List.length_nil, List.cons_append, List.nil_append, reduceCtorEq, List.replicate_zero, List.replicate_succ, Nat.reduceAdd, Nat.reduceSub, decide_true, decide_false, intsOf_map', blsOf_map', strsOf_map', map_int_inj, map_str_inj, map_bool_inj, map_itD_inj, itD_iff, sh_int, sh_bool, sh_none, sh_itD, sh_nil, sh_ints, sh_its, eqv_int, eqv_bool, eqv_str, eqv_itD, eqv_ints, eqv_strs, eqv_its, eqv_nil, Nat.zero_le, and_assoc]
    refine ⟨w1, by omega, fun i i0 i1 => ?_⟩
    obtain ⟨s1, s2⟩ := sub_snoc (x := q) hy rfl
    cases hd : decide (i > 0) with
    | true =>
      simp only [wVar, wOwn, wC, wOp, wT, wChain, wAndT, wOrT, wNotT, wAnd, wOr, wNot, wIf, wNil, wCons, wDisp, wCall, wCall0, wNoPart, wPart, wSl, wRevL, wBlt, wItL, wItT, wItS, wRg1, wRg2, wEnum, wZip, wLR, wLR2, wYes, wM1, wFmt, wJoined, wIsi, wNeg, wNewD, wOwnCat, wPar2, wNext, wSeq, wNever, wSet, wNew, wAug, wExtend, wAppend, wPut, wFrz, wRet, wRetOwn, wRetN, wDrop, wIfS, wgName, wgTup, wUnp, wRaise, bodyEN, wLc, wFor, wSortSet, e_add_i, e_add_s, e_add_l, e_add_t, e_kadd_i, e_kadd_s, e_kadd_l, e_kadd_t, e_sub, e_kt, e_mul_i, e_mul_l, e_kmul_i, e_kmul_l, e_div, e_kdiv, e_mod, e_kmod, e_cmp, e_eq, e_ne, e_keq, e_is_n, e_is_b, e_isn_n, e_isn_b, e_non_n, e_non_l, e_non_t, e_non_i, e_non_s, e_non_b, e_non_x, e_in_l, e_in_t, e_ni_l, e_ni_t, e_kin_l, e_kin_t, e_kin_s, e_ix_l, e_ix_t, e_ix_s, e_kix_l, e_kix_t, e_kix_s, e_sl_l, e_sl_t, e_sl_s, e_len_l, e_len_t, e_len_s, e_klen_l, e_klen_t, e_klen_s, e_kany, e_list_l, e_list_t, e_tup_l, e_tup_t, e_sum, e_max, e_max2, e_min, e_kne, e_kne2, e_all, e_str, e_kstr, e_int, e_kint, e_split, e_ksplit, e_part, e_kpart, e_join, e_kjoin, e_pys0, e_pys1, e_sa0, e_sa1, e_wipe0, e_wipe1, e_js0, e_js1, e_ty_i, e_ty_b, e_ty_n, e_ty_s, e_ty_l, e_ty_t, e_isi_ii, e_isi_ib, e_isi_in, e_isi_is, e_isi_il, e_isi_it, e_isi_bi, e_isi_bb, e_isi_bn, e_isi_bs, e_isi_bl, e_isi_bt, e_isi_li, e_isi_lb, e_isi_ln, e_isi_ls, e_isi_ll, e_isi_lt, e_isi_ti, e_isi_tb, e_isi_tn, e_isi_ts, e_isi_tl, e_isi_tt, e_isi_si, e_isi_sb, e_isi_sn, e_isi_ss, e_isi_sl, e_isi_st, e_up, e_st0, e_st1, e_st2, exists_eq_left, exists_eq_left', exists_eq_right, exists_eq_right', exists_eq', exists_eq, true_and, and_true, and_self, false_and, and_false, exists_and_left, exists_and_right, exists_const, Option.some.injEq, Option.map_some, Option.map_none, Sl.is.injEq, Sl.own.injEq, D.py.injEq, D.ex.injEq, D.rf.injEq, PyData.int.injEq, PyData.bool.injEq, PyData.str.injEq, PyData.list.injEq, PyData.tuple.injEq, List.cons.injEq, if_true, if_false, eq_self, Bool.false_eq_true, Bool.true_eq_false, Bool.not_true, Bool.not_false, Bool.not_not, List.getElem?_cons_zero, List.getElem?_cons_succ, List.set_cons_zero, List.set_cons_succ, List.length_cons, List.length_nil, List.cons_append, List.nil_append, reduceCtorEq, List.replicate_zero, List.replicate_succ, Nat.reduceAdd, Nat.reduceSub, decide_true, decide_false, intsOf_map', blsOf_map', strsOf_map', map_int_inj, map_str_inj, map_bool_inj, map_itD_inj, itD_iff, sh_int, sh_bool, sh_none, sh_itD, sh_nil, sh_ints, sh_its, eqv_int, eqv_bool, eqv_str, eqv_itD, eqv_ints, eqv_strs, eqv_its, eqv_nil, Nat.zero_le, and_assoc]
      refine ⟨?_, hR _ _ ⟨rfl, ys ++ [q], zs ++ [q], .is (.py (.int q)), by simp [e], s1, by simp⟩⟩
      rw [List.length_map]
      have := le_line (n := 1000) (by omega)
      omega
    | false =>
      simp only [wVar, wOwn, wC, wOp, wT, wChain, wAndT, wOrT, wNotT, wAnd, wOr, wNot, wIf, wNil, wCons, wDisp, wCall, wCall0, wNoPart, wPart, wSl, wRevL, wBlt, wItL, wItT, wItS, wRg1, wRg2, wEnum, wZip, wLR, wLR2, wYes, wM1, wFmt, wJoined, wIsi, wNeg, wNewD, wOwnCat, wPar2, wNext, wSeq, wNever, wSet, wNew, wAug, wExtend, wAppend, wPut, wFrz, wRet, wRetOwn, wRetN, wDrop, wIfS, wgName, wgTup, wUnp, wRaise, bodyEN, wLc, wFor, wSortSet, e_add_i, e_add_s, e_add_l, e_add_t, e_kadd_i, e_kadd_s, e_kadd_l, e_kadd_t, e_sub, e_kt, e_mul_i, e_mul_l, e_kmul_i, e_kmul_l, e_div, e_kdiv, e_mod, e_kmod, e_cmp, e_eq, e_ne, e_keq, e_is_n, e_is_b, e_isn_n, e_isn_b, e_non_n, e_non_l, e_non_t, e_non_i, e_non_s, e_non_b, e_non_x, e_in_l, e_in_t, e_ni_l, e_ni_t, e_kin_l, e_kin_t, e_kin_s, e_ix_l, e_ix_t, e_ix_s, e_kix_l, e_kix_t, e_kix_s, e_sl_l, e_sl_t, e_sl_s, e_len_l, e_len_t, e_len_s, e_klen_l, e_klen_t, e_klen_s, e_kany, e_list_l, e_list_t, e_tup_l, e_tup_t, e_sum, e_max, e_max2, e_min, e_kne, e_kne2, e_all, e_str, e_kstr, e_int, e_kint, e_split, e_ksplit, e_part, e_kpart, e_join, e_kjoin, e_pys0, e_pys1, e_sa0, e_sa1, e_wipe0, e_wipe1, e_js0, e_js1, e_ty_i, e_ty_b, e_ty_n, e_ty_s, e_ty_l, e_ty_t, e_isi_ii, e_isi_ib, e_isi_in, e_isi_is, e_isi_il, e_isi_it, e_isi_bi, e_isi_bb, e_isi_bn, e_isi_bs, e_isi_bl, e_isi_bt, e_isi_li, e_isi_lb, e_isi_ln, e_isi_ls, e_isi_ll, e_isi_lt, e_isi_ti, e_isi_tb, e_isi_tn, e_isi_ts, e_isi_tl, e_isi_tt, e_isi_si, e_isi_sb, e_isi_sn, e_isi_ss, e_isi_sl, e_isi_st, e_up, e_st0, e_st1, e_st2, exists_eq_left, exists_eq_left', exists_eq_right, exists_eq_right', exists_eq', exists_eq, true_and, and_true, and_self, false_and, and_false, exists_and_left, exists_and_right, exists_const, Option.some.injEq, Option.map_some, Option.map_none, Sl.is.injEq, Sl.own.injEq, D.py.injEq, D.ex.injEq, D.rf.injEq, PyData.int.injEq, PyData.bool.injEq, PyData.str.injEq, PyData.list.injEq, PyData.tuple.injEq, List.cons.injEq, if_true, if_false, eq_self, Bool.false_eq_true, Bool.true_eq_false, Bool.not_true, Bool.not_false, Bool.not_not, List.getElem?_cons_zero, List.getElem?_cons_succ, List.set_cons_zero, List.set_cons_succ, List.length_cons, List.length_nil, List.cons_append, List.nil_append, reduceCtorEq, List.replicate_zero, List.replicate_succ, Nat.reduceAdd, Nat.reduceSub, decide_true, decide_false, intsOf_map', blsOf_map', strsOf_map', map_int_inj, map_str_inj, map_bool_inj, map_itD_inj, itD_iff, sh_int, sh_bool, sh_none, sh_itD, sh_nil, sh_ints, sh_its, eqv_int, eqv_bool, eqv_str, eqv_itD, eqv_ints, eqv_strs, eqv_its, eqv_nil, Nat.zero_le, and_assoc]
      exact hR _ _ ⟨rfl, ys, zs ++ [q], .is (.py (.int q)), by simp [e], s2, rfl⟩
  · obtain ⟨rfl, ys, zs, s, e, hy, rfl⟩ := h
    rw [List.append_nil] at e
    rw [← e] at hy
    simp only [wVar, wOwn, wC, wOp, wT, wChain, wAndT, wOrT, wNotT, wAnd, wOr, wNot, wIf, wNil, wCons, wDisp, wCall, wCall0, wNoPart, wPart, wSl, wRevL, wBlt, wItL, wItT, wItS, wRg1, wRg2, wEnum, wZip, wLR, wLR2, wYes, wM1, wFmt, wJoined, wIsi, wNeg, wNewD, wOwnCat, wPar2, wNext, wSeq, wNever, wSet, wNew, wAug, wExtend, wAppend, wPut, wFrz, wRet, wRetOwn, wRetN, wDrop, wIfS, wgName, wgTup, wUnp, wRaise, bodyEN, wLc, wFor, wSortSet, e_add_i, e_add_s, e_add_l, e_add_t, e_kadd_i, e_kadd_s, e_kadd_l, e_kadd_t, e_sub, e_kt, e_mul_i, e_mul_l, e_kmul_i, e_kmul_l, e_div, e_kdiv, e_mod, e_kmod, e_cmp, e_eq, e_ne, e_keq, e_is_n, e_is_b, e_isn_n, e_isn_b, e_non_n, e_non_l, e_non_t, e_non_i, e_non_s, e_non_b, e_non_x, e_in_l, e_in_t, e_ni_l, e_ni_t, e_kin_l, e_kin_t, e_kin_s, e_ix_l, e_ix_t, e_ix_s, e_kix_l, e_kix_t, e_kix_s, e_sl_l, e_sl_t, e_sl_s, e_len_l, e_len_t, e_len_s, e_klen_l, e_klen_t, e_klen_s, e_kany, e_list_l, e_list_t, e_tup_l, e_tup_t, e_sum, e_max, e_max2, e_min, e_kne, e_kne2, e_all, e_str, e_kstr, e_int, e_kint, e_split, e_ksplit, e_part, e_kpart, e_join, e_kjoin, e_pys0, e_pys1, e_sa0, e_sa1, e_wipe0, e_wipe1, e_js0, e_js1, e_ty_i, e_ty_b, e_ty_n, e_ty_s, e_ty_l, e_ty_t, e_isi_ii, e_isi_ib, e_isi_in, e_isi_is, e_isi_il, e_isi_it, e_isi_bi, e_isi_bb, e_isi_bn, e_isi_bs, e_isi_bl, e_isi_bt, e_isi_li, e_isi_lb, e_isi_ln, e_isi_ls, e_isi_ll, e_isi_lt, e_isi_ti, e_isi_tb, e_isi_tn, e_isi_ts, e_isi_tl, e_isi_tt, e_isi_si, e_isi_sb, e_isi_sn, e_isi_ss, e_isi_sl, e_isi_st, e_up, e_st0, e_st1, e_st2, exists_eq_left, exists_eq_left', exists_eq_right, exists_eq_right', exists_eq', exists_eq, true_and, and_true, and_self, false_and, and_false, exists_and_left, exists_and_right, exists_const, Option.some.injEq, Option.map_some, Option.map_none, Sl.is.injEq, Sl.own.injEq, D.py.injEq, D.ex.injEq, D.rf.injEq, PyData.int.injEq, PyData.bool.injEq, PyData.str.injEq, PyData.list.injEq, PyData.tuple.injEq, List.cons.injEq, if_true, if_false, eq_self, Bool.false_eq_true, Bool.true_eq_false, Bool.not_true, Bool.not_false, Bool.not_not, List.getElem?_cons_zero, List.getElem?_cons_succ, List.set_cons_zero, List.set_cons_succ, List.length_cons, List.length_nil, List.cons_append, List.nil_append, reduceCtorEq, List.replicate_zero, List.replicate_succ, Nat.reduceAdd, Nat.reduceSub, decide_true, decide_false, intsOf_map', blsOf_map', strsOf_map', map_int_inj, map_str_inj, map_bool_inj, map_itD_inj, itD_iff, sh_int, sh_bool, sh_none, sh_itD, sh_nil, sh_ints, sh_its, eqv_int, eqv_bool, eqv_str, eqv_itD, eqv_ints, eqv_strs, eqv_its, eqv_nil, Nat.zero_le, and_assoc]
    cases ys with
    | nil =>
      simp only [List.map_nil, List.isEmpty_nil, wVar, wOwn, wC, wOp, wT, wChain, wAndT, wOrT, wNotT, wAnd, wOr, wNot, wIf, wNil, wCons, wDisp, wCall, wCall0, wNoPart, wPart, wSl, wRevL, wBlt, wItL, wItT, wItS, wRg1, wRg2, wEnum, wZip, wLR, wLR2, wYes, wM1, wFmt, wJoined, wIsi, wNeg, wNewD, wOwnCat, wPar2, wNext, wSeq, wNever, wSet, wNew, wAug, wExtend, wAppend, wPut, wFrz, wRet, wRetOwn, wRetN, wDrop, wIfS, wgName, wgTup, wUnp, wRaise, bodyEN, wLc, wFor, wSortSet, e_add_i, e_add_s, e_add_l, e_add_t, e_kadd_i, e_kadd_s, e_kadd_l, e_kadd_t, e_sub, e_kt, e_mul_i, e_mul_l, e_kmul_i, e_kmul_l, e_div, e_kdiv, e_mod, e_kmod, e_cmp, e_eq, e_ne, e_keq, e_is_n, e_is_b, e_isn_n, e_isn_b, e_non_n, e_non_l, e_non_t, e_non_i, e_non_s, e_non_b, e_non_x, e_in_l, e_in_t, e_ni_l, e_ni_t, e_kin_l, e_kin_t, e_kin_s, e_ix_l, e_ix_t, e_ix_s, e_kix_l, e_kix_t, e_kix_s, e_sl_l, e_sl_t, e_sl_s, e_len_l, e_len_t, e_len_s, e_klen_l, e_klen_t, e_klen_s, e_kany, e_list_l, e_list_t, e_tup_l, e_tup_t, e_sum, e_max, e_max2, e_min, e_kne, e_kne2, e_all, e_str, e_kstr, e_int, e_kint, e_split, e_ksplit, e_part, e_kpart, e_join, e_kjoin, e_pys0, e_pys1, e_sa0, e_sa1, e_wipe0, e_wipe1, e_js0, e_js1, e_ty_i, e_ty_b, e_ty_n, e_ty_s, e_ty_l, e_ty_t, e_isi_ii, e_isi_ib, e_isi_in, e_isi_is, e_isi_il, e_isi_it, e_isi_bi, e_isi_bb, e_isi_bn, e_isi_bs, e_isi_bl, e_isi_bt, e_isi_li, e_isi_lb, e_isi_ln, e_isi_ls, e_isi_ll, e_isi_lt, e_isi_ti, e_isi_tb, e_isi_tn, e_isi_ts, e_isi_tl, e_isi_tt, e_isi_si, e_isi_sb, e_isi_sn, e_isi_ss, e_isi_sl, e_isi_st, e_up, e_st0, e_st1, e_st2, exists_eq_left, exists_eq_left', exists_eq_right, exists_eq_right', exists_eq', exists_eq, true_and, and_true, and_self, false_and, and_false, exists_and_left, exists_and_right, exists_const, Option.some.injEq, Option.map_some, Option.map_none, Sl.is.injEq, Sl.own.injEq, D.py.injEq, D.ex.injEq, D.rf.injEq, PyData.int.injEq, PyData.bool.injEq, PyData.str.injEq, PyData.list.injEq, PyData.tuple.injEq, List.cons.injEq, if_true, if_false, eq_self, Bool.false_eq_true, Bool.true_eq_false, Bool.not_true, Bool.not_false, Bool.not_not, List.getElem?_cons_zero, List.getElem?_cons_succ, List.set_cons_zero, List.set_cons_succ, List.length_cons, List.length_nil, List.cons_append, List.nil_append, reduceCtorEq, List.replicate_zero, List.replicate_succ, Nat.reduceAdd, Nat.reduceSub, decide_true, decide_false, intsOf_map', blsOf_map', strsOf_map', map_int_inj, map_str_inj, map_bool_inj, map_itD_inj, itD_iff, sh_int, sh_bool, sh_none, sh_itD, sh_nil, sh_ints, sh_its, eqv_int, eqv_bool, eqv_str, eqv_itD, eqv_ints, eqv_strs, eqv_its, eqv_nil, Nat.zero_le, and_assoc, spd_draw]
      refine ⟨by omega, by omega, fun i i0 i1 => ?_⟩
      simp only [l1, wVar, wOwn, wC, wOp, wT, wChain, wAndT, wOrT, wNotT, wAnd, wOr, wNot, wIf, wNil, wCons, wDisp, wCall, wCall0, wNoPart, wPart, wSl, wRevL, wBlt, wItL, wItT, wItS, wRg1, wRg2, wEnum, wZip, wLR, wLR2, wYes, wM1, wFmt, wJoined, wIsi, wNeg, wNewD, wOwnCat, wPar2, wNext, wSeq, wNever, wSet, wNew, wAug, wExtend, wAppend, wPut, wFrz, wRet, wRetOwn, wRetN, wDrop, wIfS, wgName, wgTup, wUnp, wRaise, bodyEN, wLc, wFor, wSortSet, e_add_i, e_add_s, e_add_l, e_add_t, e_kadd_i, e_kadd_s, e_kadd_l, e_kadd_t, e_sub, e_kt, e_mul_i, e_mul_l, e_kmul_i, e_kmul_l, e_div, e_kdiv, e_mod, e_kmod, e_cmp, e_eq, e_ne, e_keq, e_is_n, e_is_b, e_isn_n, e_isn_b, e_non_n, e_non_l, e_non_t, e_non_i, e_non_s, e_non_b, e_non_x, e_in_l, e_in_t, e_ni_l, e_ni_t, e_kin_l, e_kin_t, e_kin_s, e_ix_l, e_ix_t, e_ix_s, e_kix_l, e_kix_t, e_kix_s, e_sl_l, e_sl_t, e_sl_s, e_len_l, e_len_t, e_len_s, e_klen_l, e_klen_t, e_klen_s, e_kany, e_list_l, e_list_t, e_tup_l, e_tup_t, e_sum, e_max, e_max2, e_min, e_kne, e_kne2, e_all, e_str, e_kstr, e_int, e_kint, e_split, e_ksplit, e_part, e_kpart, e_join, e_kjoin, e_pys0, e_pys1, e_sa0, e_sa1, e_wipe0, e_wipe1, e_js0, e_js1, e_ty_i, e_ty_b, e_ty_n, e_ty_s, e_ty_l, e_ty_t, e_isi_ii, e_isi_ib, e_isi_in, e_isi_is, e_isi_il, e_isi_it, e_isi_bi, e_isi_bb, e_isi_bn, e_isi_bs, e_isi_bl, e_isi_bt, e_isi_li, e_isi_lb, e_isi_ln, e_isi_ls, e_isi_ll, e_isi_lt, e_isi_ti, e_isi_tb, e_isi_tn, e_isi_ts, e_isi_tl, e_isi_tt, e_isi_si, e_isi_sb, e_isi_sn, e_isi_ss, e_isi_sl, e_isi_st, e_up, e_st0, e_st1, e_st2, exists_eq_left, exists_eq_left', exists_eq_right, exists_eq_right', exists_eq', exists_eq, true_and, and_true, and_self, false_and, and_false, exists_and_left, exists_and_right, exists_const, Option.some.injEq, Option.map_some, Option.map_none, Sl.is.injEq, Sl.own.injEq, D.py.injEq, D.ex.injEq, D.rf.injEq, PyData.int.injEq, PyData.bool.injEq, PyData.str.injEq, PyData.list.injEq, PyData.tuple.injEq, List.cons.injEq, if_true, if_false, eq_self, Bool.false_eq_true, Bool.true_eq_false, Bool.not_true, Bool.not_false, Bool.not_not, List.getElem?_cons_zero, List.getElem?_cons_succ, List.set_cons_zero, List.set_cons_succ, List.length_cons, List.length_nil, List.cons_append, List.nil_append, reduceCtorEq, List.replicate_zero, List.replicate_succ, Nat.reduceAdd, Nat.reduceSub, decide_true, decide_false, intsOf_map', blsOf_map', strsOf_map', map_int_inj, map_str_inj, map_bool_inj, map_itD_inj, itD_iff, sh_int, sh_bool, sh_none, sh_itD, sh_nil, sh_ints, sh_its, eqv_int, eqv_bool, eqv_str, eqv_itD, eqv_ints, eqv_strs, eqv_its, eqv_nil, Nat.zero_le, and_assoc]
      refine n [1 + i] (sub_subs ?_) (by simp)
      exact List.singleton_sublist.mpr ((mem_upTo m1).mpr (by omega))
    | cons y ys =>
      have : ((y :: ys).map PyData.int).isEmpty = false := by simp
      simp only [this, wVar, wOwn, wC, wOp, wT, wChain, wAndT, wOrT, wNotT, wAnd, wOr, wNot, wIf, wNil, wCons, wDisp, wCall, wCall0, wNoPart, wPart, wSl, wRevL, wBlt, wItL, wItT, wItS, wRg1, wRg2, wEnum, wZip, wLR, wLR2, wYes, wM1, wFmt, wJoined, wIsi, wNeg, wNewD, wOwnCat, wPar2, wNext, wSeq, wNever, wSet, wNew, wAug, wExtend, wAppend, wPut, wFrz, wRet, wRetOwn, wRetN, wDrop, wIfS, wgName, wgTup, wUnp, wRaise, bodyEN, wLc, wFor, wSortSet, e_add_i, e_add_s, e_add_l, e_add_t, e_kadd_i, e_kadd_s, e_kadd_l, e_kadd_t, e_sub, e_kt, e_mul_i, e_mul_l, e_kmul_i, e_kmul_l, e_div, e_kdiv, e_mod, e_kmod, e_cmp, e_eq, e_ne, e_keq, e_is_n, e_is_b, e_isn_n, e_isn_b, e_non_n, e_non_l, e_non_t, e_non_i, e_non_s, e_non_b, e_non_x, e_in_l, e_in_t, e_ni_l, e_ni_t, e_kin_l, e_kin_t, e_kin_s, e_ix_l, e_ix_t, e_ix_s, e_kix_l, e_kix_t, e_kix_s, e_sl_l, e_sl_t, e_sl_s, e_len_l, e_len_t, e_len_s, e_klen_l, e_klen_t, e_klen_s, e_kany, e_list_l, e_list_t, e_tup_l, e_tup_t, e_sum, e_max, e_max2, e_min, e_kne, e_kne2, e_all, e_str, e_kstr, e_int, e_kint, e_split, e_ksplit, e_part, e_kpart, e_join, e_kjoin, e_pys0, e_pys1, e_sa0, e_sa1, e_wipe0, e_wipe1, e_js0, e_js1, e_ty_i, e_ty_b, e_ty_n, e_ty_s, e_ty_l, e_ty_t, e_isi_ii, e_isi_ib, e_isi_in, e_isi_is, e_isi_il, e_isi_it, e_isi_bi, e_isi_bb, e_isi_bn, e_isi_bs, e_isi_bl, e_isi_bt, e_isi_li, e_isi_lb, e_isi_ln, e_isi_ls, e_isi_ll, e_isi_lt, e_isi_ti, e_isi_tb, e_isi_tn, e_isi_ts, e_isi_tl, e_isi_tt, e_isi_si, e_isi_sb, e_isi_sn, e_isi_ss, e_isi_sl, e_isi_st, e_up, e_st0, e_st1, e_st2, exists_eq_left, exists_eq_left', exists_eq_right, exists_eq_right', exists_eq', exists_eq, true_and, and_true, and_self, false_and, and_false, exists_and_left, exists_and_right, exists_const, Option.some.injEq, Option.map_some, Option.map_none, Sl.is.injEq, Sl.own.injEq, D.py.injEq, D.ex.injEq, D.rf.injEq, PyData.int.injEq, PyData.bool.injEq, PyData.str.injEq, PyData.list.injEq, PyData.tuple.injEq, List.cons.injEq, if_true, if_false, eq_self, Bool.false_eq_true, Bool.true_eq_false, Bool.not_true, Bool.not_false, Bool.not_not, List.getElem?_cons_zero, List.getElem?_cons_succ, List.set_cons_zero, List.set_cons_succ, List.length_cons, List.length_nil, List.cons_append, List.nil_append, reduceCtorEq, List.replicate_zero, List.replicate_succ, Nat.reduceAdd, Nat.reduceSub, decide_true, decide_false, intsOf_map', blsOf_map', strsOf_map', map_int_inj, map_str_inj, map_bool_inj, map_itD_inj, itD_iff, sh_int, sh_bool, sh_none, sh_itD, sh_nil, sh_ints, sh_its, eqv_int, eqv_bool, eqv_str, eqv_itD, eqv_ints, eqv_strs, eqv_its, eqv_nil, Nat.zero_le, and_assoc]
      exact n (y :: ys) (sub_subs hy) (by simp)
/-! all items -/
def rowC (a b : Int) : List Itm := (ten.filter fun c => decide ((b - a) % c = 0)).map fun c => (a, b, c)
def rowI (a : Int) : List Itm := (a, a, 1) :: (ten.filter fun b => decide (a < b)).flatMap fun b => rowC a b
theorem itemsAll_eq : itemsAll = ten.flatMap rowI := rfl
theorem row_rg : ∀ a ∈ ten, rgI (a + 1) (11 - (a + 1)).toNat = ten.filter (fun b => decide (a < b)) ∧ (rowI a).length ≤ 30 := by decide +kernel
theorem cell_rg : ∀ a ∈ ten, ∀ b ∈ ten, a < b → (((rgI 1 9).filter fun c => decide ((b - a) % c = 0)).map fun c => ((a, b, c) : Itm)) = rowC a b := by decide +kernel
theorem rg9 : ∀ c ∈ rgI 1 9, 0 < c := by decide +kernel
def sp__law_items : Spec0 := fun ds N _ => ds = [] ∧ N (.py (.list (itemsAll.map itD)))
def w__law_items : WS Unit :=
  wSeq (wNew 0) (wSeq (wFor (wRg2 (wCons (wC (.int 1)) (wCons (wC (.int 11)) (wNil)))) (wgName 1) (wSeq (wAppend 0 (wDisp .tuple (wCons (wVar 1) (wCons (wVar 1) (wCons (wC (.int 1)) (wNil)))))) (wFor (wRg2 (wCons (wOp fAdd kAdd (wVar 1) (wC (.int 1))) (wCons (wC (.int 11)) (wNil)))) (wgName 2) (wOwnCat 0 (wLc (wRg2 (wCons (wC (.int 1)) (wCons (wC (.int 10)) (wNil)))) (wgName 3) (wT (wOp fEq kEq (wOp fMod kMod (wOp fSub kTrue (wVar 2) (wVar 1)) (wVar 3)) (wC (.int 0)))) (wDisp .tuple (wCons (wVar 1) (wCons (wVar 2) (wCons (wVar 3) (wNil))))) [3]))))) (wFrz 0 (wRet (wVar 0))))
theorem law_itemsAll : ∀ ds θ N Nx, sp__law_items.up ds θ N Nx → w__law_items (bodyEN N Nx) (startD 4 ds) θ := by
  rintro ds θ N Nx ⟨rfl, n⟩
  simp only [w__law_items, wVar, wOwn, wC, wOp, wT, wChain, wAndT, wOrT, wNotT, wAnd, wOr, wNot, wIf, wNil, wCons, wDisp, wCall, wCall0, wNoPart, wPart, wSl, wRevL, wBlt, wItL, wItT, wItS, wRg1, wRg2, wEnum, wZip, wLR, wLR2, wYes, wM1, wFmt, wJoined, wIsi, wNeg, wNewD, wOwnCat, wPar2, wNext, wSeq, wNever, wSet, wNew, wAug, wExtend, wAppend, wPut, wFrz, wRet, wRetOwn, wRetN, wDrop, wIfS, wgName, wgTup, wUnp, wRaise, bodyEN, wLc, wFor, wSortSet, e_add_i, e_add_s, e_add_l, e_add_t, e_kadd_i, e_kadd_s, e_kadd_l, e_kadd_t, e_sub, e_kt, e_mul_i, e_mul_l, e_kmul_i, e_kmul_l, e_div, e_kdiv, e_mod, e_kmod, e_cmp, e_eq, e_ne, e_keq, e_is_n, e_is_b, e_isn_n, e_isn_b, e_non_n, e_non_l, e_non_t, e_non_i, e_non_s, e_non_b, e_non_x, e_in_l, e_in_t, e_ni_l, e_ni_t, e_kin_l, e_kin_t, e_kin_s, e_ix_l, e_ix_t, e_ix_s, e_kix_l, e_kix_t, e_kix_s, e_sl_l, e_sl_t, e_sl_s, e_len_l, e_len_t, e_len_s, e_klen_l, e_klen_t, e_klen_s, e_kany, e_list_l, e_list_t, e_tup_l, e_tup_t, e_sum, e_max, e_max2, e_min, e_kne, e_kne2, e_all, e_str, e_kstr, e_int, e_kint, e_split, e_ksplit, e_part, e_kpart, e_join, e_kjoin, e_pys0, e_pys1, e_sa0, e_sa1, e_wipe0, e_wipe1, e_js0, e_js1, e_ty_i, e_ty_b, e_ty_n, e_ty_s, e_ty_l, e_ty_t, e_isi_ii, e_isi_ib, e_isi_in, e_isi_is, e_isi_il, e_isi_it, e_isi_bi, e_isi_bb, e_isi_bn, e_isi_bs, e_isi_bl, e_isi_bt, e_isi_li, e_isi_lb, e_isi_ln, e_isi_ls, e_isi_ll, e_isi_lt, e_isi_ti, e_isi_tb, e_isi_tn, e_isi_ts, e_isi_tl, e_isi_tt, e_isi_si, e_isi_sb, e_isi_sn, e_isi_ss, e_isi_sl, e_isi_st, e_up, e_st0, e_st1, e_st2, exists_eq_left, exists_eq_left', exists_eq_right, exists_eq_right', exists_eq', exists_eq, true_and, and_true, and_self, false_and, and_false, exists_and_left, exists_and_right, exists_const, Option.some.injEq, Option.map_some, Option.map_none, Sl.is.injEq, Sl.own.injEq, D.py.injEq, D.ex.injEq, D.rf.injEq, PyData.int.injEq, PyData.bool.injEq, PyData.str.injEq, PyData.list.injEq, PyData.tuple.injEq, List.cons.injEq, if_true, if_false, eq_self, Bool.false_eq_true, Bool.true_eq_false, Bool.not_true, Bool.not_false, Bool.not_not, List.getElem?_cons_zero, List.getElem?_cons_succ, List.set_cons_zero, List.set_cons_succ, List.length_cons, List.length_nil, List.cons_append, List.nil_append, reduceCtorEq, List.replicate_zero, List.replicate_succ, Nat.reduceAdd, Nat.reduceSub, decide_true, decide_false, intsOf_map', blsOf_map', strsOf_map', map_int_inj, map_str_inj, map_bool_inj, map_itD_inj, itD_iff, sh_int, sh_bool, sh_none, sh_itD, sh_nil, sh_ints, sh_its, eqv_int, eqv_bool, eqv_str, eqv_itD, eqv_ints, eqv_strs, eqv_its, eqv_nil, Nat.zero_le, and_assoc, rgD_eq, List.map_map]
  refine ⟨by omega, by omega, by omega, by omega, ?_⟩
  have e10 : rgI 1 (11 - 1 : Int).toNat = ten := by decide +kernel
  rw [e10]
  have ltot : ∀ (zs xs : List Int), ten = zs ++ xs → (zs.flatMap rowI).length ≤ 300 := by
    intro zs xs e
    have hl : zs.length ≤ 10 := by
      have := congrArg List.length e
      simp at this
      omega
    have hm : ∀ z ∈ zs, z ∈ ten := fun z hz => by rw [e]; exact List.mem_append_left _ hz
    have : (zs.flatMap rowI).length ≤ zs.length * 30 := by
      rw [List.length_flatMap]
      have := sum_le (fun z => (rowI z).length) 30 zs fun z hz => (row_rg z (hm z hz)).2
      exact this
    omega
  refine forGo_inv (D.py ∘ PyData.int) (fun (xs : List Int) (ρ : DS) (_ : Unit) => ∃ (zs : List Int) (s1 s2 s3 : Sl), ten = zs ++ xs ∧ ρ = [.own ((zs.flatMap rowI).map itD), s1, s2, s3])
    (fun a xs ρ θ h R hR => ?_) (fun ρ θ h => ?_) _ _ _ ⟨[], .no, .no, .no, rfl, rfl⟩
  · obtain ⟨zs, s1, s2, s3, e, rfl⟩ := h
    have ha : a ∈ ten := by rw [e]; simp
    have ha' := ten_iff.mp ha
    have hl := ltot zs _ e
    have hl1 : ((zs.flatMap rowI).map itD).length < sizeLine := by
      rw [List.length_map]
      have := le_line (n := 1000) (by omega)
      omega
    have l3 : (3 ≤ sizeLine) = True := eq_true (by decide)
    simp only [Function.comp, l3, hl1, wVar, wOwn, wC, wOp, wT, wChain, wAndT, wOrT, wNotT, wAnd, wOr, wNot, wIf, wNil, wCons, wDisp, wCall, wCall0, wNoPart, wPart, wSl, wRevL, wBlt, wItL, wItT, wItS, wRg1, wRg2, wEnum, wZip, wLR, wLR2, wYes, wM1, wFmt, wJoined, wIsi, wNeg, wNewD, wOwnCat, wPar2, wNext, wSeq, wNever, wSet, wNew, wAug, wExtend, wAppend, wPut, wFrz, wRet, wRetOwn, wRetN, wDrop, wIfS, wgName, wgTup, wUnp, wRaise, bodyEN, wLc, wFor, wSortSet, e_add_i, e_add_s, e_add_l, e_add_t, e_kadd_i, e_kadd_s, e_kadd_l, e_kadd_t, e_sub, e_kt, e_mul_i, e_mul_l, e_kmul_i, e_kmul_l, e_div, e_kdiv, e_mod, e_kmod, e_cmp, e_eq, e_ne, e_keq, e_is_n, e_is_b, e_isn_n, e_isn_b, e_non_n, e_non_l, e_non_t, e_non_i, e_non_s, e_non_b, e_non_x, e_in_l, e_in_t, e_ni_l, e_ni_t, e_kin_l, e_kin_t, e_kin_s, e_ix_l, e_ix_t, e_ix_s, e_kix_l, e_kix_t, e_kix_s, e_sl_l, e_sl_t, e_sl_s, e_len_l, e_len_t, e_len_s, e_klen_l, e_klen_t, e_klen_s, e_kany, e_list_l, e_list_t, e_tup_l, e_tup_t, e_sum, e_max, e_max2, e_min, e_kne, e_kne2, e_all, e_str, e_kstr, e_int, e_kint, e_split, e_ksplit, e_part, e_kpart, e_join, e_kjoin, e_pys0, e_pys1, e_sa0, e_sa1, e_wipe0, e_wipe1, e_js0, e_js1, e_ty_i, e_ty_b, e_ty_n, e_ty_s, e_ty_l, e_ty_t, e_isi_ii, e_isi_ib, e_isi_in, e_isi_is, e_isi_il, e_isi_it, e_isi_bi, e_isi_bb, e_isi_bn, e_isi_bs, e_isi_bl, e_isi_bt, e_isi_li, e_isi_lb, e_isi_ln, e_isi_ls, e_isi_ll, e_isi_lt, e_isi_ti, e_isi_tb, e_isi_tn, e_isi_ts, e_isi_tl, e_isi_tt, e_isi_si, e_isi_sb, e_isi_sn, e_isi_ss, e_isi_sl, e_isi_st, e_up, e_st0, e_st1, e_st2, exists_eq_left, exists_eq_left', exists_eq_right, exists_eq_right', exists_eq', exists_eq, true_and, and_true, and_self, false_and, and_false, exists_and_left, exists_and_right, exists_const, Option.some.injEq, Option.map_some, Option.map_none, Sl.is.injEq, Sl.own.injEq, D.py.injEq, D.ex.injEq, D.rf.injEq, PyData.int.injEq, PyData.bool.injEq, PyData.str.injEq, PyData.list.injEq, PyData.tuple.injEq, List.cons.injEq, if_true, if_false, eq_self, Bool.false_eq_true, Bool.true_eq_false, Bool.not_true, Bool.not_false, Bool.not_not, List.getElem?_cons_zero, List.getElem?_cons_succ, List.set_cons_zero, List.set_cons_succ, List.length_cons, List.length_nil, List.cons_append, List.nil_append, reduceCtorEq, List.replicate_zero, List.replicate_succ, Nat.reduceAdd, Nat.reduceSub, decide_true, decide_false, intsOf_map', blsOf_map', strsOf_map', map_int_inj, map_str_inj, map_bool_inj, map_itD_inj, itD_iff, sh_int, sh_bool, sh_none, sh_itD, sh_nil, sh_ints, sh_its, eqv_int, eqv_bool, eqv_str, eqv_itD, eqv_ints, eqv_strs, eqv_its, eqv_nil, Nat.zero_le, and_assoc]
    refine ⟨by omega, by omega, by omega, by omega, ?_⟩
    rw [rgD_eq, (row_rg a ha).1, List.map_map]
    have hrow := (row_rg a ha).2
    refine forGo_inv (D.py ∘ PyData.int) (fun (ys : List Int) (ρ : DS) (_ : Unit) => ∃ (us : List Int) (s2 s3 : Sl), ten.filter (fun b => decide (a < b)) = us ++ ys ∧ ρ = [.own (((zs.flatMap rowI) ++ ((a, a, 1) :: us.flatMap fun b => rowC a b)).map itD), .is (.py (.int a)), s2, s3])
      (fun b ys ρ θ h R' hR' => ?_) (fun ρ θ h => ?_) _ _ _ ⟨[], s2, s3, rfl, by simp⟩
    · obtain ⟨us, s2, s3, e2, rfl⟩ := h
      have hb : b ∈ ten.filter (fun b => decide (a < b)) := by rw [e2]; simp
      obtain ⟨hb1, hb2⟩ := List.mem_filter.mp hb
      have hab : a < b := of_decide_eq_true hb2
      have e9 : (10 - 1 : Int).toNat = 9 := rfl
      simp only [Function.comp, wVar, wOwn, wC, wOp, wT, wChain, wAndT, wOrT, wNotT, wAnd, wOr, wNot, wIf, wNil, wCons, wDisp, wCall, wCall0, wNoPart, wPart, wSl, wRevL, wBlt, wItL, wItT, wItS, wRg1, wRg2, wEnum, wZip, wLR, wLR2, wYes, wM1, wFmt, wJoined, wIsi, wNeg, wNewD, wOwnCat, wPar2, wNext, wSeq, wNever, wSet, wNew, wAug, wExtend, wAppend, wPut, wFrz, wRet, wRetOwn, wRetN, wDrop, wIfS, wgName, wgTup, wUnp, wRaise, bodyEN, wLc, wFor, wSortSet, e_add_i, e_add_s, e_add_l, e_add_t, e_kadd_i, e_kadd_s, e_kadd_l, e_kadd_t, e_sub, e_kt, e_mul_i, e_mul_l, e_kmul_i, e_kmul_l, e_div, e_kdiv, e_mod, e_kmod, e_cmp, e_eq, e_ne, e_keq, e_is_n, e_is_b, e_isn_n, e_isn_b, e_non_n, e_non_l, e_non_t, e_non_i, e_non_s, e_non_b, e_non_x, e_in_l, e_in_t, e_ni_l, e_ni_t, e_kin_l, e_kin_t, e_kin_s, e_ix_l, e_ix_t, e_ix_s, e_kix_l, e_kix_t, e_kix_s, e_sl_l, e_sl_t, e_sl_s, e_len_l, e_len_t, e_len_s, e_klen_l, e_klen_t, e_klen_s, e_kany, e_list_l, e_list_t, e_tup_l, e_tup_t, e_sum, e_max, e_max2, e_min, e_kne, e_kne2, e_all, e_str, e_kstr, e_int, e_kint, e_split, e_ksplit, e_part, e_kpart, e_join, e_kjoin, e_pys0, e_pys1, e_sa0, e_sa1, e_wipe0, e_wipe1, e_js0, e_js1, e_ty_i, e_ty_b, e_ty_n, e_ty_s, e_ty_l, e_ty_t, e_isi_ii, e_isi_ib, e_isi_in, e_isi_is, e_isi_il, e_isi_it, e_isi_bi, e_isi_bb, e_isi_bn, e_isi_bs, e_isi_bl, e_isi_bt, e_isi_li, e_isi_lb, e_isi_ln, e_isi_ls, e_isi_ll, e_isi_lt, e_isi_ti, e_isi_tb, e_isi_tn, e_isi_ts, e_isi_tl, e_isi_tt, e_isi_si, e_isi_sb, e_isi_sn, e_isi_ss, e_isi_sl, e_isi_st, e_up, e_st0, e_st1, e_st2, exists_eq_left, exists_eq_left', exists_eq_right, exists_eq_right', exists_eq', exists_eq, true_and, and_true, and_self, false_and, and_false, exists_and_left, exists_and_right, exists_const, Option.some.injEq, Option.map_some, Option.map_none, Sl.is.injEq, Sl.own.injEq, D.py.injEq, D.ex.injEq, D.rf.injEq, PyData.int.injEq, PyData.bool.injEq, PyData.str.injEq, PyData.list.injEq, PyData.tuple.injEq, List.cons.injEq, if_true, if_false, eq_self, Bool.false_eq_true, Bool.true_eq_false, Bool.not_true, Bool.not_false, Bool.not_not, List.getElem?_cons_zero, List.getElem?_cons_succ, List.set_cons_zero, List.set_cons_succ, List.length_cons, List.length_nil, List.cons_append, List.nil_append, reduceCtorEq, List.replicate_zero, List.replicate_succ, Nat.reduceAdd, Nat.reduceSub, decide_true, decide_false, intsOf_map', blsOf_map', strsOf_map', map_int_inj, map_str_inj, map_bool_inj, map_itD_inj, itD_iff, sh_int, sh_bool, sh_none, sh_itD, sh_nil, sh_ints, sh_its, eqv_int, eqv_bool, eqv_str, eqv_itD, eqv_ints, eqv_strs, eqv_its, eqv_nil, Nat.zero_le, and_assoc, rgD_eq, List.map_map, e9]
      refine ⟨by omega, by omega, by omega, by omega, ?_⟩
      refine lcGo_fm (fun x => D.py (PyData.int x)) (fun c => decide ((b - a) % c = 0)) (fun c => itD (a, b, c)) _ [] (fun c hc T F q => ?_) ?_ ?_
      · simp only [wVar, wOwn, wC, wOp, wT, wChain, wAndT, wOrT, wNotT, wAnd, wOr, wNot, wIf, wNil, wCons, wDisp, wCall, wCall0, wNoPart, wPart, wSl, wRevL, wBlt, wItL, wItT, wItS, wRg1, wRg2, wEnum, wZip, wLR, wLR2, wYes, wM1, wFmt, wJoined, wIsi, wNeg, wNewD, wOwnCat, wPar2, wNext, wSeq, wNever, wSet, wNew, wAug, wExtend, wAppend, wPut, wFrz, wRet, wRetOwn, wRetN, wDrop, wIfS, wgName, wgTup, wUnp, wRaise, bodyEN, wLc, wFor, wSortSet, e_add_i, e_add_s, e_add_l, e_add_t, e_kadd_i, e_kadd_s, e_kadd_l, e_kadd_t, e_sub, e_kt, e_mul_i, e_mul_l, e_kmul_i, e_kmul_l, e_div, e_kdiv, e_mod, e_kmod, e_cmp, e_eq, e_ne, e_keq, e_is_n, e_is_b, e_isn_n, e_isn_b, e_non_n, e_non_l, e_non_t, e_non_i, e_non_s, e_non_b, e_non_x, e_in_l, e_in_t, e_ni_l, e_ni_t, e_kin_l, e_kin_t, e_kin_s, e_ix_l, e_ix_t, e_ix_s, e_kix_l, e_kix_t, e_kix_s, e_sl_l, e_sl_t, e_sl_s, e_len_l, e_len_t, e_len_s, e_klen_l, e_klen_t, e_klen_s, e_kany, e_list_l, e_list_t, e_tup_l, e_tup_t, e_sum, e_max, e_max2, e_min, e_kne, e_kne2, e_all, e_str, e_kstr, e_int, e_kint, e_split, e_ksplit, e_part, e_kpart, e_join, e_kjoin, e_pys0, e_pys1, e_sa0, e_sa1, e_wipe0, e_wipe1, e_js0, e_js1, e_ty_i, e_ty_b, e_ty_n, e_ty_s, e_ty_l, e_ty_t, e_isi_ii, e_isi_ib, e_isi_in, e_isi_is, e_isi_il, e_isi_it, e_isi_bi, e_isi_bb, e_isi_bn, e_isi_bs, e_isi_bl, e_isi_bt, e_isi_li, e_isi_lb, e_isi_ln, e_isi_ls, e_isi_ll, e_isi_lt, e_isi_ti, e_isi_tb, e_isi_tn, e_isi_ts, e_isi_tl, e_isi_tt, e_isi_si, e_isi_sb, e_isi_sn, e_isi_ss, e_isi_sl, e_isi_st, e_up, e_st0, e_st1, e_st2, exists_eq_left, exists_eq_left', exists_eq_right, exists_eq_right', exists_eq', exists_eq, true_and, and_true, and_self, false_and, and_false, exists_and_left, exists_and_right, exists_const, Option.some.injEq, Option.map_some, Option.map_none, Sl.is.injEq, Sl.own.injEq, D.py.injEq, D.ex.injEq, D.rf.injEq, PyData.int.injEq, PyData.bool.injEq, PyData.str.injEq, PyData.list.injEq, PyData.tuple.injEq, List.cons.injEq, if_true, if_false, eq_self, Bool.false_eq_true, Bool.true_eq_false, Bool.not_true, Bool.not_false, Bool.not_not, List.getElem?_cons_zero, List.getElem?_cons_succ, List.set_cons_zero, List.set_cons_succ, List.length_cons, List.length_nil, List.cons_append, List.nil_append, reduceCtorEq, List.replicate_zero, List.replicate_succ, Nat.reduceAdd, Nat.reduceSub, decide_true, decide_false, intsOf_map', blsOf_map', strsOf_map', map_int_inj, map_str_inj, map_bool_inj, map_itD_inj, itD_iff, sh_int, sh_bool, sh_none, sh_itD, sh_nil, sh_ints, sh_its, eqv_int, eqv_bool, eqv_str, eqv_itD, eqv_ints, eqv_strs, eqv_its, eqv_nil, Nat.zero_le, and_assoc, l3]
        exact ⟨rg9 c hc, q⟩
      · simp only [rgI, List.length_nil, List.length_map, List.length_range]
        exact le_line (by omega)
      · have ec := cell_rg a ha b hb1 hab
        have ec2 : (((rgI 1 9).filter fun c => decide ((b - a) % c = 0)).map fun c => itD (a, b, c)) = (rowC a b).map itD := by
          rw [← ec, List.map_map]
          rfl
        rw [List.nil_append, ec2]
        have ei : (itD ∘ fun c => ((a, b, c) : Itm)) = fun c => itD (a, b, c) := rfl
        have hfl : ((us ++ [b]).flatMap fun b => rowC a b).length ≤ 30 := by
          have h1 : rowI a = (a, a, 1) :: ((us ++ [b]).flatMap (fun b => rowC a b) ++ ys.flatMap fun b => rowC a b) := by
            unfold rowI
            rw [e2]
            simp
          rw [h1] at hrow
          simp only [List.length_cons, List.length_append] at hrow ⊢
          omega
        refine ⟨_, rfl, ?_, hR' _ _ ⟨us ++ [b], .is (.py (.int b)), s3, by rw [e2]; simp, ?_⟩⟩
        · simp only [List.flatMap_append, List.flatMap_cons, List.flatMap_nil, List.append_nil, List.length_append] at hfl
          simp only [List.length_map, List.length_append, List.length_cons]
          exact le_line (by omega)
        · simp [List.flatMap_append]
    · obtain ⟨us, s2, s3, e2, rfl⟩ := h
      rw [List.append_nil] at e2
      refine hR _ _ ⟨zs ++ [a], .is (.py (.int a)), s2, s3, by rw [e]; simp, ?_⟩
      rw [← e2]
      simp [rowI]
  · obtain ⟨zs, s1, s2, s3, e, rfl⟩ := h
    rw [List.append_nil] at e
    simp only [wVar, wOwn, wC, wOp, wT, wChain, wAndT, wOrT, wNotT, wAnd, wOr, wNot, wIf, wNil, wCons, wDisp, wCall, wCall0, wNoPart, wPart, wSl, wRevL, wBlt, wItL, wItT, wItS, wRg1, wRg2, wEnum, wZip, wLR, wLR2, wYes, wM1, wFmt, wJoined, wIsi, wNeg, wNewD, wOwnCat, wPar2, wNext, wSeq, wNever, wSet, wNew, wAug, wExtend, wAppend, wPut, wFrz, wRet, wRetOwn, wRetN, wDrop, wIfS, wgName, wgTup, wUnp, wRaise, bodyEN, wLc, wFor, wSortSet, e_add_i, e_add_s, e_add_l, e_add_t, e_kadd_i, e_kadd_s, e_kadd_l, e_kadd_t, e_sub, e_kt, e_mul_i, e_mul_l, e_kmul_i, e_kmul_l, e_div, e_kdiv, e_mod, e_kmod, e_cmp, e_eq, e_ne, e_keq, e_is_n, e_is_b, e_isn_n, e_isn_b, e_non_n, e_non_l, e_non_t, e_non_i, e_non_s, e_non_b, e_non_x, e_in_l, e_in_t, e_ni_l, e_ni_t, e_kin_l, e_kin_t, e_kin_s, e_ix_l, e_ix_t, e_ix_s, e_kix_l, e_kix_t, e_kix_s, e_sl_l, e_sl_t, e_sl_s, e_len_l, e_len_t, e_len_s, e_klen_l, e_klen_t, e_klen_s, e_kany, e_list_l, e_list_t, e_tup_l, e_tup_t, e_sum, e_max, e_max2, e_min, e_kne, e_kne2, e_all, e_str, e_kstr, e_int, e_kint, e_split, e_ksplit, e_part, e_kpart, e_join, e_kjoin, e_pys0, e_pys1, e_sa0, e_sa1, e_wipe0, e_wipe1, e_js0, e_js1, e_ty_i, e_ty_b, e_ty_n, e_ty_s, e_ty_l, e_ty_t, e_isi_ii, e_isi_ib, e_isi_in, e_isi_is, e_isi_il, e_isi_it, e_isi_bi, e_isi_bb, e_isi_bn, e_isi_bs, e_isi_bl, e_isi_bt, e_isi_li, e_isi_lb, e_isi_ln, e_isi_ls, e_isi_ll, e_isi_lt, e_isi_ti, e_isi_tb, e_isi_tn, e_isi_ts, e_isi_tl, e_isi_tt, e_isi_si, e_isi_sb, e_isi_sn, e_isi_ss, e_isi_sl, e_isi_st, e_up, e_st0, e_st1, e_st2, exists_eq_left, exists_eq_left', exists_eq_right, exists_eq_right', exists_eq', exists_eq, true_and, and_true, and_self, false_and, and_false, exists_and_left, exists_and_right, exists_const, Option.some.injEq, Option.map_some, Option.map_none, Sl.is.injEq, Sl.own.injEq, D.py.injEq, D.ex.injEq, D.rf.injEq, PyData.int.injEq, PyData.bool.injEq, PyData.str.injEq, PyData.list.injEq, PyData.tuple.injEq, List.cons.injEq, if_true, if_false, eq_self, Bool.false_eq_true, Bool.true_eq_false, Bool.not_true, Bool.not_false, Bool.not_not, List.getElem?_cons_zero, List.getElem?_cons_succ, List.set_cons_zero, List.set_cons_succ, List.length_cons, List.length_nil, List.cons_append, List.nil_append, reduceCtorEq, List.replicate_zero, List.replicate_succ, Nat.reduceAdd, Nat.reduceSub, decide_true, decide_false, intsOf_map', blsOf_map', strsOf_map', map_int_inj, map_str_inj, map_bool_inj, map_itD_inj, itD_iff, sh_int, sh_bool, sh_none, sh_itD, sh_nil, sh_ints, sh_its, eqv_int, eqv_bool, eqv_str, eqv_itD, eqv_ints, eqv_strs, eqv_its, eqv_nil, Nat.zero_le, and_assoc]
    rw [itemsAll_eq, e] at n
    exact n
end RT
end
section
set_option Elab.async false
set_option linter.all false
set_option maxRecDepth 100000
set_option maxHeartbeats 4000000
namespace RT
open PySem PySem.Spec PyProof.Rows L2
def sp__law_numbers : Spec0 := fun ds N _ => ∃ q : Itm, ds = [.py (itD q)] ∧ itemOk q = true ∧ N (.py (.list ((numbersOf q).map .int)))
def w__law_numbers : WS Unit :=
  wRet (wLc (wRg2 (wCons (wOp fIx kIx (wVar 0) (wC (.int 0))) (wCons (wOp fAdd kAdd (wOp fIx kIx (wVar 0) (wC (.int 1))) (wC (.int 1))) (wNil)))) (wgName 1) (wT (wOp fEq kEq (wOp fMod kMod (wOp fSub kTrue (wVar 1) (wOp fIx kIx (wVar 0) (wC (.int 0)))) (wOp fIx kIx (wVar 0) (wC (.int 2)))) (wC (.int 0)))) (wVar 1) [1])
theorem nums_rg : ∀ q ∈ itemsAll, ((rgI q.1 (q.2.1 + 1 - q.1).toNat).filter fun k => decide ((k - q.1) % q.2.2 = 0)) = numbersOf q ∧ 0 < q.2.2 := by decide +kernel
theorem law_numbers : ∀ ds θ N Nx, sp__law_numbers.up ds θ N Nx → w__law_numbers (bodyEN N Nx) (startD 2 ds) θ := by
  rintro ds θ N Nx ⟨q, rfl, ok, n⟩
  obtain ⟨h1, h2⟩ := nums_rg q (item_mem.mp ok)
  obtain ⟨t1, t2, t3⟩ := item_ten ok
  have t1 := ten_iff.mp t1
  have t2 := ten_iff.mp t2
  simp only [w__law_numbers, wVar, wOwn, wC, wOp, wT, wChain, wAndT, wOrT, wNotT, wAnd, wOr, wNot, wIf, wNil, wCons, wDisp, wCall, wCall0, wNoPart, wPart, wSl, wRevL, wBlt, wItL, wItT, wItS, wRg1, wRg2, wEnum, wZip, wLR, wLR2, wYes, wM1, wFmt, wJoined, wIsi, wNeg, wNewD, wOwnCat, wPar2, wNext, wSeq, wNever, wSet, wNew, wAug, wExtend, wAppend, wPut, wFrz, wRet, wRetOwn, wRetN, wDrop, wIfS, wgName, wgTup, wUnp, wRaise, bodyEN, wLc, wFor, wSortSet, e_add_i, e_add_s, e_add_l, e_add_t, e_kadd_i, e_kadd_s, e_kadd_l, e_kadd_t, e_sub, e_kt, e_mul_i, e_mul_l, e_kmul_i, e_kmul_l, e_div, e_kdiv, e_mod, e_kmod, e_cmp, e_eq, e_ne, e_keq, e_is_n, e_is_b, e_isn_n, e_isn_b, e_non_n, e_non_l, e_non_t, e_non_i, e_non_s, e_non_b, e_non_x, e_in_l, e_in_t, e_ni_l, e_ni_t, e_kin_l, e_kin_t, e_kin_s, e_ix_l, e_ix_t, e_ix_s, e_kix_l, e_kix_t, e_kix_s, e_sl_l, e_sl_t, e_sl_s, e_len_l, e_len_t, e_len_s, e_klen_l, e_klen_t, e_klen_s, e_kany, e_list_l, e_list_t, e_tup_l, e_tup_t, e_sum, e_max, e_max2, e_min, e_kne, e_kne2, e_all, e_str, e_kstr, e_int, e_kint, e_split, e_ksplit, e_part, e_kpart, e_join, e_kjoin, e_pys0, e_pys1, e_sa0, e_sa1, e_wipe0, e_wipe1, e_js0, e_js1, e_ty_i, e_ty_b, e_ty_n, e_ty_s, e_ty_l, e_ty_t, e_isi_ii, e_isi_ib, e_isi_in, e_isi_is, e_isi_il, e_isi_it, e_isi_bi, e_isi_bb, e_isi_bn, e_isi_bs, e_isi_bl, e_isi_bt, e_isi_li, e_isi_lb, e_isi_ln, e_isi_ls, e_isi_ll, e_isi_lt, e_isi_ti, e_isi_tb, e_isi_tn, e_isi_ts, e_isi_tl, e_isi_tt, e_isi_si, e_isi_sb, e_isi_sn, e_isi_ss, e_isi_sl, e_isi_st, e_up, e_st0, e_st1, e_st2, exists_eq_left, exists_eq_left', exists_eq_right, exists_eq_right', exists_eq', exists_eq, true_and, and_true, and_self, false_and, and_false, exists_and_left, exists_and_right, exists_const, Option.some.injEq, Option.map_some, Option.map_none, Sl.is.injEq, Sl.own.injEq, D.py.injEq, D.ex.injEq, D.rf.injEq, PyData.int.injEq, PyData.bool.injEq, PyData.str.injEq, PyData.list.injEq, PyData.tuple.injEq, List.cons.injEq, if_true, if_false, eq_self, Bool.false_eq_true, Bool.true_eq_false, Bool.not_true, Bool.not_false, Bool.not_not, List.getElem?_cons_zero, List.getElem?_cons_succ, List.set_cons_zero, List.set_cons_succ, List.length_cons, List.length_nil, List.cons_append, List.nil_append, reduceCtorEq, List.replicate_zero, List.replicate_succ, Nat.reduceAdd, Nat.reduceSub, decide_true, decide_false, intsOf_map', blsOf_map', strsOf_map', map_int_inj, map_str_inj, map_bool_inj, map_itD_inj, itD_iff, sh_int, sh_bool, sh_none, sh_itD, sh_nil, sh_ints, sh_its, eqv_int, eqv_bool, eqv_str, eqv_itD, eqv_ints, eqv_strs, eqv_its, eqv_nil, Nat.zero_le, and_assoc, (atI_3 _ _ _).1, (atI_3 _ _ _).2.1, (atI_3 _ _ _).2.2, rgD_eq, List.map_map]
  refine ⟨by omega, by omega, by omega, by omega, ?_⟩
  refine lcGo_fm (D.py ∘ PyData.int) (fun k => decide ((k - q.1) % q.2.2 = 0)) PyData.int _ [] (fun k hk T F t => ?_) ?_ ?_
  · simp only [Function.comp, wVar, wOwn, wC, wOp, wT, wChain, wAndT, wOrT, wNotT, wAnd, wOr, wNot, wIf, wNil, wCons, wDisp, wCall, wCall0, wNoPart, wPart, wSl, wRevL, wBlt, wItL, wItT, wItS, wRg1, wRg2, wEnum, wZip, wLR, wLR2, wYes, wM1, wFmt, wJoined, wIsi, wNeg, wNewD, wOwnCat, wPar2, wNext, wSeq, wNever, wSet, wNew, wAug, wExtend, wAppend, wPut, wFrz, wRet, wRetOwn, wRetN, wDrop, wIfS, wgName, wgTup, wUnp, wRaise, bodyEN, wLc, wFor, wSortSet, e_add_i, e_add_s, e_add_l, e_add_t, e_kadd_i, e_kadd_s, e_kadd_l, e_kadd_t, e_sub, e_kt, e_mul_i, e_mul_l, e_kmul_i, e_kmul_l, e_div, e_kdiv, e_mod, e_kmod, e_cmp, e_eq, e_ne, e_keq, e_is_n, e_is_b, e_isn_n, e_isn_b, e_non_n, e_non_l, e_non_t, e_non_i, e_non_s, e_non_b, e_non_x, e_in_l, e_in_t, e_ni_l, e_ni_t, e_kin_l, e_kin_t, e_kin_s, e_ix_l, e_ix_t, e_ix_s, e_kix_l, e_kix_t, e_kix_s, e_sl_l, e_sl_t, e_sl_s, e_len_l, e_len_t, e_len_s, e_klen_l, e_klen_t, e_klen_s, e_kany, e_list_l, e_list_t, e_tup_l, e_tup_t, e_sum, e_max, e_max2, e_min, e_kne, e_kne2, e_all, e_str, e_kstr, e_int, e_kint, e_split, e_ksplit, e_part, e_kpart, e_join, e_kjoin, e_pys0, e_pys1, e_sa0, e_sa1, e_wipe0, e_wipe1, e_js0, e_js1, e_ty_i, e_ty_b, e_ty_n, e_ty_s, e_ty_l, e_ty_t, e_isi_ii, e_isi_ib, e_isi_in, e_isi_is, e_isi_il, e_isi_it, e_isi_bi, e_isi_bb, e_isi_bn, e_isi_bs, e_isi_bl, e_isi_bt, e_isi_li, e_isi_lb, e_isi_ln, e_isi_ls, e_isi_ll, e_isi_lt, e_isi_ti, e_isi_tb, e_isi_tn, e_isi_ts, e_isi_tl, e_isi_tt, e_isi_si, e_isi_sb, e_isi_sn, e_isi_ss, e_isi_sl, e_isi_st, e_up, e_st0, e_st1, e_st2, exists_eq_left, exists_eq_left', exists_eq_right, exists_eq_right', exists_eq', exists_eq, true_and, and_true, and_self, false_and, and_false, exists_and_left, exists_and_right, exists_const, Option.some.injEq, Option.map_some, Option.map_none, Sl.is.injEq, Sl.own.injEq, D.py.injEq, D.ex.injEq, D.rf.injEq, PyData.int.injEq, PyData.bool.injEq, PyData.str.injEq, PyData.list.injEq, PyData.tuple.injEq, List.cons.injEq, if_true, if_false, eq_self, Bool.false_eq_true, Bool.true_eq_false, Bool.not_true, Bool.not_false, Bool.not_not, List.getElem?_cons_zero, List.getElem?_cons_succ, List.set_cons_zero, List.set_cons_succ, List.length_cons, List.length_nil, List.cons_append, List.nil_append, reduceCtorEq, List.replicate_zero, List.replicate_succ, Nat.reduceAdd, Nat.reduceSub, decide_true, decide_false, intsOf_map', blsOf_map', strsOf_map', map_int_inj, map_str_inj, map_bool_inj, map_itD_inj, itD_iff, sh_int, sh_bool, sh_none, sh_itD, sh_nil, sh_ints, sh_its, eqv_int, eqv_bool, eqv_str, eqv_itD, eqv_ints, eqv_strs, eqv_its, eqv_nil, Nat.zero_le, and_assoc, (atI_3 _ _ _).1, (atI_3 _ _ _).2.1, (atI_3 _ _ _).2.2]
    exact ⟨h2, t⟩
  · simp only [rgI, List.length_nil, List.length_map, List.length_range]
    exact le_line (by omega)
  · rw [List.nil_append, h1]
    exact n
def sp__law_word : Spec0 := fun ds N _ => ∃ q : Itm, ds = [.py (itD q)] ∧ itemOk q = true ∧ N (.py (.str (textOf q)))
def w__law_word : WS Unit :=
  wSeq (wIfS (wT (wOp fEq kEq (wOp fIx kIx (wVar 0) (wC (.int 0))) (wOp fIx kIx (wVar 0) (wC (.int 1))))) (wRet (wBlt fStr kStr (wCons (wOp fIx kIx (wVar 0) (wC (.int 0))) (wNil)))) (wNext)) (wRet (wOp fAdd kAdd (wOp fAdd kAdd (wOp fAdd kAdd (wBlt fStr kStr (wCons (wOp fIx kIx (wVar 0) (wC (.int 0))) (wNil))) (wC (.str "-"))) (wBlt fStr kStr (wCons (wOp fIx kIx (wVar 0) (wC (.int 1))) (wNil)))) (wIf (wT (wOp fEq kEq (wOp fIx kIx (wVar 0) (wC (.int 2))) (wC (.int 1)))) (wC (.str "")) (wOp fAdd kAdd (wC (.str "/")) (wBlt fStr kStr (wCons (wOp fIx kIx (wVar 0) (wC (.int 2))) (wNil)))))))
theorem word_eq : ∀ q ∈ itemsAll, textOf q = if q.1 = q.2.1 then iStr q.1 else ((iStr q.1 ++ "-") ++ iStr q.2.1) ++ (if q.2.2 = 1 then ("" : Str) else ("/" : Str) ++ iStr q.2.2) := by decide +kernel
theorem str_lens : ("-" : Str).length = 1 ∧ ("/" : Str).length = 1 ∧ ("" : Str).length = 0 := by decide +kernel
theorem law_word : ∀ ds θ N Nx, sp__law_word.up ds θ N Nx → w__law_word (bodyEN N Nx) (startD 1 ds) θ := by
  rintro ds θ N Nx ⟨q, rfl, ok, n⟩
  obtain ⟨t1, t2, t3⟩ := item_ten ok
  obtain ⟨a1, a2⟩ := log2_ten _ t1
  obtain ⟨b1, b2⟩ := log2_ten _ t2
  obtain ⟨c1, c2⟩ := log2_ten _ t3
  obtain ⟨hd, hs, he⟩ := str_lens
  have hb : ∀ {n : Nat}, n ≤ 20 → n ≤ sizeLine := fun h => le_line (by omega)
  rw [word_eq q (item_mem.mp ok)] at n
  simp only [w__law_word, wVar, wOwn, wC, wOp, wT, wChain, wAndT, wOrT, wNotT, wAnd, wOr, wNot, wIf, wNil, wCons, wDisp, wCall, wCall0, wNoPart, wPart, wSl, wRevL, wBlt, wItL, wItT, wItS, wRg1, wRg2, wEnum, wZip, wLR, wLR2, wYes, wM1, wFmt, wJoined, wIsi, wNeg, wNewD, wOwnCat, wPar2, wNext, wSeq, wNever, wSet, wNew, wAug, wExtend, wAppend, wPut, wFrz, wRet, wRetOwn, wRetN, wDrop, wIfS, wgName, wgTup, wUnp, wRaise, bodyEN, wLc, wFor, wSortSet, e_add_i, e_add_s, e_add_l, e_add_t, e_kadd_i, e_kadd_s, e_kadd_l, e_kadd_t, e_sub, e_kt, e_mul_i, e_mul_l, e_kmul_i, e_kmul_l, e_div, e_kdiv, e_mod, e_kmod, e_cmp, e_eq, e_ne, e_keq, e_is_n, e_is_b, e_isn_n, e_isn_b, e_non_n, e_non_l, e_non_t, e_non_i, e_non_s, e_non_b, e_non_x, e_in_l, e_in_t, e_ni_l, e_ni_t, e_kin_l, e_kin_t, e_kin_s, e_ix_l, e_ix_t, e_ix_s, e_kix_l, e_kix_t, e_kix_s, e_sl_l, e_sl_t, e_sl_s, e_len_l, e_len_t, e_len_s, e_klen_l, e_klen_t, e_klen_s, e_kany, e_list_l, e_list_t, e_tup_l, e_tup_t, e_sum, e_max, e_max2, e_min, e_kne, e_kne2, e_all, e_str, e_kstr, e_int, e_kint, e_split, e_ksplit, e_part, e_kpart, e_join, e_kjoin, e_pys0, e_pys1, e_sa0, e_sa1, e_wipe0, e_wipe1, e_js0, e_js1, e_ty_i, e_ty_b, e_ty_n, e_ty_s, e_ty_l, e_ty_t, e_isi_ii, e_isi_ib, e_isi_in, e_isi_is, e_isi_il, e_isi_it, e_isi_bi, e_isi_bb, e_isi_bn, e_isi_bs, e_isi_bl, e_isi_bt, e_isi_li, e_isi_lb, e_isi_ln, e_isi_ls, e_isi_ll, e_isi_lt, e_isi_ti, e_isi_tb, e_isi_tn, e_isi_ts, e_isi_tl, e_isi_tt, e_isi_si, e_isi_sb, e_isi_sn, e_isi_ss, e_isi_sl, e_isi_st, e_up, e_st0, e_st1, e_st2, exists_eq_left, exists_eq_left', exists_eq_right, exists_eq_right', exists_eq', exists_eq, true_and, and_true, and_self, false_and, and_false, exists_and_left, exists_and_right, exists_const, Option.some.injEq, Option.map_some, Option.map_none, Sl.is.injEq, Sl.own.injEq, D.py.injEq, D.ex.injEq, D.rf.injEq, PyData.int.injEq, PyData.bool.injEq, PyData.str.injEq, PyData.list.injEq, PyData.tuple.injEq, List.cons.injEq, if_true, if_false, eq_self, Bool.false_eq_true, Bool.true_eq_false, Bool.not_true, Bool.not_false, Bool.not_not, List.getElem?_cons_zero, List.getElem?_cons_succ, List.set_cons_zero, List.set_cons_succ, List.length_cons, List.length_nil, List.cons_append, List.nil_append, reduceCtorEq, List.replicate_zero, List.replicate_succ, Nat.reduceAdd, Nat.reduceSub, decide_true, decide_false, intsOf_map', blsOf_map', strsOf_map', map_int_inj, map_str_inj, map_bool_inj, map_itD_inj, itD_iff, sh_int, sh_bool, sh_none, sh_itD, sh_nil, sh_ints, sh_its, eqv_int, eqv_bool, eqv_str, eqv_itD, eqv_ints, eqv_strs, eqv_its, eqv_nil, Nat.zero_le, and_assoc, (atI_3 _ _ _).1, (atI_3 _ _ _).2.1, (atI_3 _ _ _).2.2, a1, b1, c1]
  by_cases h : q.1 = q.2.1
  · rw [if_pos h] at n
    simp only [h, wVar, wOwn, wC, wOp, wT, wChain, wAndT, wOrT, wNotT, wAnd, wOr, wNot, wIf, wNil, wCons, wDisp, wCall, wCall0, wNoPart, wPart, wSl, wRevL, wBlt, wItL, wItT, wItS, wRg1, wRg2, wEnum, wZip, wLR, wLR2, wYes, wM1, wFmt, wJoined, wIsi, wNeg, wNewD, wOwnCat, wPar2, wNext, wSeq, wNever, wSet, wNew, wAug, wExtend, wAppend, wPut, wFrz, wRet, wRetOwn, wRetN, wDrop, wIfS, wgName, wgTup, wUnp, wRaise, bodyEN, wLc, wFor, wSortSet, e_add_i, e_add_s, e_add_l, e_add_t, e_kadd_i, e_kadd_s, e_kadd_l, e_kadd_t, e_sub, e_kt, e_mul_i, e_mul_l, e_kmul_i, e_kmul_l, e_div, e_kdiv, e_mod, e_kmod, e_cmp, e_eq, e_ne, e_keq, e_is_n, e_is_b, e_isn_n, e_isn_b, e_non_n, e_non_l, e_non_t, e_non_i, e_non_s, e_non_b, e_non_x, e_in_l, e_in_t, e_ni_l, e_ni_t, e_kin_l, e_kin_t, e_kin_s, e_ix_l, e_ix_t, e_ix_s, e_kix_l, e_kix_t, e_kix_s, e_sl_l, e_sl_t, e_sl_s, e_len_l, e_len_t, e_len_s, e_klen_l, e_klen_t, e_klen_s, e_kany, e_list_l, e_list_t, e_tup_l, e_tup_t, e_sum, e_max, e_max2, e_min, e_kne, e_kne2, e_all, e_str, e_kstr, e_int, e_kint, e_split, e_ksplit, e_part, e_kpart, e_join, e_kjoin, e_pys0, e_pys1, e_sa0, e_sa1, e_wipe0, e_wipe1, e_js0, e_js1, e_ty_i, e_ty_b, e_ty_n, e_ty_s, e_ty_l, e_ty_t, e_isi_ii, e_isi_ib, e_isi_in, e_isi_is, e_isi_il, e_isi_it, e_isi_bi, e_isi_bb, e_isi_bn, e_isi_bs, e_isi_bl, e_isi_bt, e_isi_li, e_isi_lb, e_isi_ln, e_isi_ls, e_isi_ll, e_isi_lt, e_isi_ti, e_isi_tb, e_isi_tn, e_isi_ts, e_isi_tl, e_isi_tt, e_isi_si, e_isi_sb, e_isi_sn, e_isi_ss, e_isi_sl, e_isi_st, e_up, e_st0, e_st1, e_st2, exists_eq_left, exists_eq_left', exists_eq_right, exists_eq_right', exists_eq', exists_eq, true_and, and_true, and_self, false_and, and_false, exists_and_left, exists_and_right, exists_const, Option.some.injEq, Option.map_some, Option.map_none, Sl.is.injEq, Sl.own.injEq, D.py.injEq, D.ex.injEq, D.rf.injEq, PyData.int.injEq, PyData.bool.injEq, PyData.str.injEq, PyData.list.injEq, PyData.tuple.injEq, List.cons.injEq, if_true, if_false, eq_self, Bool.false_eq_true, Bool.true_eq_false, Bool.not_true, Bool.not_false, Bool.not_not, List.getElem?_cons_zero, List.getElem?_cons_succ, List.set_cons_zero, List.set_cons_succ, List.length_cons, List.length_nil, List.cons_append, List.nil_append, reduceCtorEq, List.replicate_zero, List.replicate_succ, Nat.reduceAdd, Nat.reduceSub, decide_true, decide_false, intsOf_map', blsOf_map', strsOf_map', map_int_inj, map_str_inj, map_bool_inj, map_itD_inj, itD_iff, sh_int, sh_bool, sh_none, sh_itD, sh_nil, sh_ints, sh_its, eqv_int, eqv_bool, eqv_str, eqv_itD, eqv_ints, eqv_strs, eqv_its, eqv_nil, Nat.zero_le, and_assoc] at n ⊢
    exact n
  · rw [if_neg h] at n
    simp only [h, wVar, wOwn, wC, wOp, wT, wChain, wAndT, wOrT, wNotT, wAnd, wOr, wNot, wIf, wNil, wCons, wDisp, wCall, wCall0, wNoPart, wPart, wSl, wRevL, wBlt, wItL, wItT, wItS, wRg1, wRg2, wEnum, wZip, wLR, wLR2, wYes, wM1, wFmt, wJoined, wIsi, wNeg, wNewD, wOwnCat, wPar2, wNext, wSeq, wNever, wSet, wNew, wAug, wExtend, wAppend, wPut, wFrz, wRet, wRetOwn, wRetN, wDrop, wIfS, wgName, wgTup, wUnp, wRaise, bodyEN, wLc, wFor, wSortSet, e_add_i, e_add_s, e_add_l, e_add_t, e_kadd_i, e_kadd_s, e_kadd_l, e_kadd_t, e_sub, e_kt, e_mul_i, e_mul_l, e_kmul_i, e_kmul_l, e_div, e_kdiv, e_mod, e_kmod, e_cmp, e_eq, e_ne, e_keq, e_is_n, e_is_b, e_isn_n, e_isn_b, e_non_n, e_non_l, e_non_t, e_non_i, e_non_s, e_non_b, e_non_x, e_in_l, e_in_t, e_ni_l, e_ni_t, e_kin_l, e_kin_t, e_kin_s, e_ix_l, e_ix_t, e_ix_s, e_kix_l, e_kix_t, e_kix_s, e_sl_l, e_sl_t, e_sl_s, e_len_l, e_len_t, e_len_s, e_klen_l, e_klen_t, e_klen_s, e_kany, e_list_l, e_list_t, e_tup_l, e_tup_t, e_sum, e_max, e_max2, e_min, e_kne, e_kne2, e_all, e_str, e_kstr, e_int, e_kint, e_split, e_ksplit, e_part, e_kpart, e_join, e_kjoin, e_pys0, e_pys1, e_sa0, e_sa1, e_wipe0, e_wipe1, e_js0, e_js1, e_ty_i, e_ty_b, e_ty_n, e_ty_s, e_ty_l, e_ty_t, e_isi_ii, e_isi_ib, e_isi_in, e_isi_is, e_isi_il, e_isi_it, e_isi_bi, e_isi_bb, e_isi_bn, e_isi_bs, e_isi_bl, e_isi_bt, e_isi_li, e_isi_lb, e_isi_ln, e_isi_ls, e_isi_ll, e_isi_lt, e_isi_ti, e_isi_tb, e_isi_tn, e_isi_ts, e_isi_tl, e_isi_tt, e_isi_si, e_isi_sb, e_isi_sn, e_isi_ss, e_isi_sl, e_isi_st, e_up, e_st0, e_st1, e_st2, exists_eq_left, exists_eq_left', exists_eq_right, exists_eq_right', exists_eq', exists_eq, true_and, and_true, and_self, false_and, and_false, exists_and_left, exists_and_right, exists_const, Option.some.injEq, Option.map_some, Option.map_none, Sl.is.injEq, Sl.own.injEq, D.py.injEq, D.ex.injEq, D.rf.injEq, PyData.int.injEq, PyData.bool.injEq, PyData.str.injEq, PyData.list.injEq, PyData.tuple.injEq, List.cons.injEq, if_true, if_false, eq_self, Bool.false_eq_true, Bool.true_eq_false, Bool.not_true, Bool.not_false, Bool.not_not, List.getElem?_cons_zero, List.getElem?_cons_succ, List.set_cons_zero, List.set_cons_succ, List.length_cons, List.length_nil, List.cons_append, List.nil_append, reduceCtorEq, List.replicate_zero, List.replicate_succ, Nat.reduceAdd, Nat.reduceSub, decide_true, decide_false, intsOf_map', blsOf_map', strsOf_map', map_int_inj, map_str_inj, map_bool_inj, map_itD_inj, itD_iff, sh_int, sh_bool, sh_none, sh_itD, sh_nil, sh_ints, sh_its, eqv_int, eqv_bool, eqv_str, eqv_itD, eqv_ints, eqv_strs, eqv_its, eqv_nil, Nat.zero_le, and_assoc, PySem.Str.length_append]
    refine ⟨hb (by omega), hb (by omega), ?_⟩
    by_cases h2 : q.2.2 = 1
    · rw [if_pos h2] at n
      simp only [h2, wVar, wOwn, wC, wOp, wT, wChain, wAndT, wOrT, wNotT, wAnd, wOr, wNot, wIf, wNil, wCons, wDisp, wCall, wCall0, wNoPart, wPart, wSl, wRevL, wBlt, wItL, wItT, wItS, wRg1, wRg2, wEnum, wZip, wLR, wLR2, wYes, wM1, wFmt, wJoined, wIsi, wNeg, wNewD, wOwnCat, wPar2, wNext, wSeq, wNever, wSet, wNew, wAug, wExtend, wAppend, wPut, wFrz, wRet, wRetOwn, wRetN, wDrop, wIfS, wgName, wgTup, wUnp, wRaise, bodyEN, wLc, wFor, wSortSet, e_add_i, e_add_s, e_add_l, e_add_t, e_kadd_i, e_kadd_s, e_kadd_l, e_kadd_t, e_sub, e_kt, e_mul_i, e_mul_l, e_kmul_i, e_kmul_l, e_div, e_kdiv, e_mod, e_kmod, e_cmp, e_eq, e_ne, e_keq, e_is_n, e_is_b, e_isn_n, e_isn_b, e_non_n, e_non_l, e_non_t, e_non_i, e_non_s, e_non_b, e_non_x, e_in_l, e_in_t, e_ni_l, e_ni_t, e_kin_l, e_kin_t, e_kin_s, e_ix_l, e_ix_t, e_ix_s, e_kix_l, e_kix_t, e_kix_s, e_sl_l, e_sl_t, e_sl_s, e_len_l, e_len_t, e_len_s, e_klen_l, e_klen_t, e_klen_s, e_kany, e_list_l, e_list_t, e_tup_l, e_tup_t, e_sum, e_max, e_max2, e_min, e_kne, e_kne2, e_all, e_str, e_kstr, e_int, e_kint, e_split, e_ksplit, e_part, e_kpart, e_join, e_kjoin, e_pys0, e_pys1, e_sa0, e_sa1, e_wipe0, e_wipe1, e_js0, e_js1, e_ty_i, e_ty_b, e_ty_n, e_ty_s, e_ty_l, e_ty_t, e_isi_ii, e_isi_ib, e_isi_in, e_isi_is, e_isi_il, e_isi_it, e_isi_bi, e_isi_bb, e_isi_bn, e_isi_bs, e_isi_bl, e_isi_bt, e_isi_li, e_isi_lb, e_isi_ln, e_isi_ls, e_isi_ll, e_isi_lt, e_isi_ti, e_isi_tb, e_isi_tn, e_isi_ts, e_isi_tl, e_isi_tt, e_isi_si, e_isi_sb, e_isi_sn, e_isi_ss, e_isi_sl, e_isi_st, e_up, e_st0, e_st1, e_st2, exists_eq_left, exists_eq_left', exists_eq_right, exists_eq_right', exists_eq', exists_eq, true_and, and_true, and_self, false_and, and_false, exists_and_left, exists_and_right, exists_const, Option.some.injEq, Option.map_some, Option.map_none, Sl.is.injEq, Sl.own.injEq, D.py.injEq, D.ex.injEq, D.rf.injEq, PyData.int.injEq, PyData.bool.injEq, PyData.str.injEq, PyData.list.injEq, PyData.tuple.injEq, List.cons.injEq, if_true, if_false, eq_self, Bool.false_eq_true, Bool.true_eq_false, Bool.not_true, Bool.not_false, Bool.not_not, List.getElem?_cons_zero, List.getElem?_cons_succ, List.set_cons_zero, List.set_cons_succ, List.length_cons, List.length_nil, List.cons_append, List.nil_append, reduceCtorEq, List.replicate_zero, List.replicate_succ, Nat.reduceAdd, Nat.reduceSub, decide_true, decide_false, intsOf_map', blsOf_map', strsOf_map', map_int_inj, map_str_inj, map_bool_inj, map_itD_inj, itD_iff, sh_int, sh_bool, sh_none, sh_itD, sh_nil, sh_ints, sh_its, eqv_int, eqv_bool, eqv_str, eqv_itD, eqv_ints, eqv_strs, eqv_its, eqv_nil, Nat.zero_le, and_assoc, PySem.Str.length_append]
      exact ⟨hb (by omega), n⟩
    · rw [if_neg h2] at n
      simp only [h2, wVar, wOwn, wC, wOp, wT, wChain, wAndT, wOrT, wNotT, wAnd, wOr, wNot, wIf, wNil, wCons, wDisp, wCall, wCall0, wNoPart, wPart, wSl, wRevL, wBlt, wItL, wItT, wItS, wRg1, wRg2, wEnum, wZip, wLR, wLR2, wYes, wM1, wFmt, wJoined, wIsi, wNeg, wNewD, wOwnCat, wPar2, wNext, wSeq, wNever, wSet, wNew, wAug, wExtend, wAppend, wPut, wFrz, wRet, wRetOwn, wRetN, wDrop, wIfS, wgName, wgTup, wUnp, wRaise, bodyEN, wLc, wFor, wSortSet, e_add_i, e_add_s, e_add_l, e_add_t, e_kadd_i, e_kadd_s, e_kadd_l, e_kadd_t, e_sub, e_kt, e_mul_i, e_mul_l, e_kmul_i, e_kmul_l, e_div, e_kdiv, e_mod, e_kmod, e_cmp, e_eq, e_ne, e_keq, e_is_n, e_is_b, e_isn_n, e_isn_b, e_non_n, e_non_l, e_non_t, e_non_i, e_non_s, e_non_b, e_non_x, e_in_l, e_in_t, e_ni_l, e_ni_t, e_kin_l, e_kin_t, e_kin_s, e_ix_l, e_ix_t, e_ix_s, e_kix_l, e_kix_t, e_kix_s, e_sl_l, e_sl_t, e_sl_s, e_len_l, e_len_t, e_len_s, e_klen_l, e_klen_t, e_klen_s, e_kany, e_list_l, e_list_t, e_tup_l, e_tup_t, e_sum, e_max, e_max2, e_min, e_kne, e_kne2, e_all, e_str, e_kstr, e_int, e_kint, e_split, e_ksplit, e_part, e_kpart, e_join, e_kjoin, e_pys0, e_pys1, e_sa0, e_sa1, e_wipe0, e_wipe1, e_js0, e_js1, e_ty_i, e_ty_b, e_ty_n, e_ty_s, e_ty_l, e_ty_t, e_isi_ii, e_isi_ib, e_isi_in, e_isi_is, e_isi_il, e_isi_it, e_isi_bi, e_isi_bb, e_isi_bn, e_isi_bs, e_isi_bl, e_isi_bt, e_isi_li, e_isi_lb, e_isi_ln, e_isi_ls, e_isi_ll, e_isi_lt, e_isi_ti, e_isi_tb, e_isi_tn, e_isi_ts, e_isi_tl, e_isi_tt, e_isi_si, e_isi_sb, e_isi_sn, e_isi_ss, e_isi_sl, e_isi_st, e_up, e_st0, e_st1, e_st2, exists_eq_left, exists_eq_left', exists_eq_right, exists_eq_right', exists_eq', exists_eq, true_and, and_true, and_self, false_and, and_false, exists_and_left, exists_and_right, exists_const, Option.some.injEq, Option.map_some, Option.map_none, Sl.is.injEq, Sl.own.injEq, D.py.injEq, D.ex.injEq, D.rf.injEq, PyData.int.injEq, PyData.bool.injEq, PyData.str.injEq, PyData.list.injEq, PyData.tuple.injEq, List.cons.injEq, if_true, if_false, eq_self, Bool.false_eq_true, Bool.true_eq_false, Bool.not_true, Bool.not_false, Bool.not_not, List.getElem?_cons_zero, List.getElem?_cons_succ, List.set_cons_zero, List.set_cons_succ, List.length_cons, List.length_nil, List.cons_append, List.nil_append, reduceCtorEq, List.replicate_zero, List.replicate_succ, Nat.reduceAdd, Nat.reduceSub, decide_true, decide_false, intsOf_map', blsOf_map', strsOf_map', map_int_inj, map_str_inj, map_bool_inj, map_itD_inj, itD_iff, sh_int, sh_bool, sh_none, sh_itD, sh_nil, sh_ints, sh_its, eqv_int, eqv_bool, eqv_str, eqv_itD, eqv_ints, eqv_strs, eqv_its, eqv_nil, Nat.zero_le, and_assoc, PySem.Str.length_append]
      exact ⟨hb (by omega), hb (by omega), n⟩
def spd_text : Spec DrawSt := fun ds θ N _ => ∃ (a : Addr) (m : Int), ds = [.rf a, .py (.int m)] ∧ θ = .on a ∧ 1 ≤ m ∧ m ≤ 100 ∧ ∀ its : List Itm, its.all itemOk = true → its ≠ [] → (its.length : Int) ≤ m → N (.py (.list (its.map itD))) (.on a)
def w__law_text : WS DrawSt :=
  wSeq (wSet 2 (wCall0 sp__law_items wNil)) (wRet (wLc (wRg1 (wCons (wOp fAdd kAdd (wC (.int 1)) (wCall spd_draw (wCons (wVar 0) (wCons (wVar 1) (wNil))))) (wNil))) (wgName 3) (wYes) (wCall spd_pick (wCons (wVar 0) (wCons (wVar 2) (wNil)))) [3]))
theorem law_text : ∀ ds θ N Nx, spd_text ds θ N Nx → w__law_text (bodyEN N Nx) (startD 4 ds) θ := by
  rintro ds θ N Nx ⟨a, m, rfl, rfl, m1, m2, n⟩
  simp only [w__law_text, sp__law_items, spd_draw, wVar, wOwn, wC, wOp, wT, wChain, wAndT, wOrT, wNotT, wAnd, wOr, wNot, wIf, wNil, wCons, wDisp, wCall, wCall0, wNoPart, wPart, wSl, wRevL, wBlt, wItL, wItT, wItS, wRg1, wRg2, wEnum, wZip, wLR, wLR2, wYes, wM1, wFmt, wJoined, wIsi, wNeg, wNewD, wOwnCat, wPar2, wNext, wSeq, wNever, wSet, wNew, wAug, wExtend, wAppend, wPut, wFrz, wRet, wRetOwn, wRetN, wDrop, wIfS, wgName, wgTup, wUnp, wRaise, bodyEN, wLc, wFor, wSortSet, e_add_i, e_add_s, e_add_l, e_add_t, e_kadd_i, e_kadd_s, e_kadd_l, e_kadd_t, e_sub, e_kt, e_mul_i, e_mul_l, e_kmul_i, e_kmul_l, e_div, e_kdiv, e_mod, e_kmod, e_cmp, e_eq, e_ne, e_keq, e_is_n, e_is_b, e_isn_n, e_isn_b, e_non_n, e_non_l, e_non_t, e_non_i, e_non_s, e_non_b, e_non_x, e_in_l, e_in_t, e_ni_l, e_ni_t, e_kin_l, e_kin_t, e_kin_s, e_ix_l, e_ix_t, e_ix_s, e_kix_l, e_kix_t, e_kix_s, e_sl_l, e_sl_t, e_sl_s, e_len_l, e_len_t, e_len_s, e_klen_l, e_klen_t, e_klen_s, e_kany, e_list_l, e_list_t, e_tup_l, e_tup_t, e_sum, e_max, e_max2, e_min, e_kne, e_kne2, e_all, e_str, e_kstr, e_int, e_kint, e_split, e_ksplit, e_part, e_kpart, e_join, e_kjoin, e_pys0, e_pys1, e_sa0, e_sa1, e_wipe0, e_wipe1, e_js0, e_js1, e_ty_i, e_ty_b, e_ty_n, e_ty_s, e_ty_l, e_ty_t, e_isi_ii, e_isi_ib, e_isi_in, e_isi_is, e_isi_il, e_isi_it, e_isi_bi, e_isi_bb, e_isi_bn, e_isi_bs, e_isi_bl, e_isi_bt, e_isi_li, e_isi_lb, e_isi_ln, e_isi_ls, e_isi_ll, e_isi_lt, e_isi_ti, e_isi_tb, e_isi_tn, e_isi_ts, e_isi_tl, e_isi_tt, e_isi_si, e_isi_sb, e_isi_sn, e_isi_ss, e_isi_sl, e_isi_st, e_up, e_st0, e_st1, e_st2, exists_eq_left, exists_eq_left', exists_eq_right, exists_eq_right', exists_eq', exists_eq, true_and, and_true, and_self, false_and, and_false, exists_and_left, exists_and_right, exists_const, Option.some.injEq, Option.map_some, Option.map_none, Sl.is.injEq, Sl.own.injEq, D.py.injEq, D.ex.injEq, D.rf.injEq, PyData.int.injEq, PyData.bool.injEq, PyData.str.injEq, PyData.list.injEq, PyData.tuple.injEq, List.cons.injEq, if_true, if_false, eq_self, Bool.false_eq_true, Bool.true_eq_false, Bool.not_true, Bool.not_false, Bool.not_not, List.getElem?_cons_zero, List.getElem?_cons_succ, List.set_cons_zero, List.set_cons_succ, List.length_cons, List.length_nil, List.cons_append, List.nil_append, reduceCtorEq, List.replicate_zero, List.replicate_succ, Nat.reduceAdd, Nat.reduceSub, decide_true, decide_false, intsOf_map', blsOf_map', strsOf_map', map_int_inj, map_str_inj, map_bool_inj, map_itD_inj, itD_iff, sh_int, sh_bool, sh_none, sh_itD, sh_nil, sh_ints, sh_its, eqv_int, eqv_bool, eqv_str, eqv_itD, eqv_ints, eqv_strs, eqv_its, eqv_nil, Nat.zero_le, and_assoc, rgD_eq, List.map_map]
  refine ⟨by omega, by omega, fun i i0 i1 => ⟨by omega, by omega, ?_⟩⟩
  refine lcGo_inv (D.py ∘ PyData.int) (fun (xs : List Int) (acc : List PyData) (θ : DrawSt) => θ = .on a ∧ ∃ its : List Itm, acc = its.map itD ∧ its.all itemOk = true ∧ (its.length + xs.length : Int) = 1 + i) (fun x xs acc θ h => ?_) (fun acc θ h => ?_) _ _ _ ⟨rfl, [], rfl, rfl, by simp [rgI]; omega⟩
  · obtain ⟨rfl, its, rfl, h1, h2⟩ := h
    refine ⟨?_, fun T hT => ?_⟩
    · rw [List.length_map]
      have := le_line (n := 1000) (by omega)
      simp at h2
      omega
    · simp only [Function.comp, wVar, wOwn, wC, wOp, wT, wChain, wAndT, wOrT, wNotT, wAnd, wOr, wNot, wIf, wNil, wCons, wDisp, wCall, wCall0, wNoPart, wPart, wSl, wRevL, wBlt, wItL, wItT, wItS, wRg1, wRg2, wEnum, wZip, wLR, wLR2, wYes, wM1, wFmt, wJoined, wIsi, wNeg, wNewD, wOwnCat, wPar2, wNext, wSeq, wNever, wSet, wNew, wAug, wExtend, wAppend, wPut, wFrz, wRet, wRetOwn, wRetN, wDrop, wIfS, wgName, wgTup, wUnp, wRaise, bodyEN, wLc, wFor, wSortSet, e_add_i, e_add_s, e_add_l, e_add_t, e_kadd_i, e_kadd_s, e_kadd_l, e_kadd_t, e_sub, e_kt, e_mul_i, e_mul_l, e_kmul_i, e_kmul_l, e_div, e_kdiv, e_mod, e_kmod, e_cmp, e_eq, e_ne, e_keq, e_is_n, e_is_b, e_isn_n, e_isn_b, e_non_n, e_non_l, e_non_t, e_non_i, e_non_s, e_non_b, e_non_x, e_in_l, e_in_t, e_ni_l, e_ni_t, e_kin_l, e_kin_t, e_kin_s, e_ix_l, e_ix_t, e_ix_s, e_kix_l, e_kix_t, e_kix_s, e_sl_l, e_sl_t, e_sl_s, e_len_l, e_len_t, e_len_s, e_klen_l, e_klen_t, e_klen_s, e_kany, e_list_l, e_list_t, e_tup_l, e_tup_t, e_sum, e_max, e_max2, e_min, e_kne, e_kne2, e_all, e_str, e_kstr, e_int, e_kint, e_split, e_ksplit, e_part, e_kpart, e_join, e_kjoin, e_pys0, e_pys1, e_sa0, e_sa1, e_wipe0, e_wipe1, e_js0, e_js1, e_ty_i, e_ty_b, e_ty_n, e_ty_s, e_ty_l, e_ty_t, e_isi_ii, e_isi_ib, e_isi_in, e_isi_is, e_isi_il, e_isi_it, e_isi_bi, e_isi_bb, e_isi_bn, e_isi_bs, e_isi_bl, e_isi_bt, e_isi_li, e_isi_lb, e_isi_ln, e_isi_ls, e_isi_ll, e_isi_lt, e_isi_ti, e_isi_tb, e_isi_tn, e_isi_ts, e_isi_tl, e_isi_tt, e_isi_si, e_isi_sb, e_isi_sn, e_isi_ss, e_isi_sl, e_isi_st, e_up, e_st0, e_st1, e_st2, exists_eq_left, exists_eq_left', exists_eq_right, exists_eq_right', exists_eq', exists_eq, true_and, and_true, and_self, false_and, and_false, exists_and_left, exists_and_right, exists_const, Option.some.injEq, Option.map_some, Option.map_none, Sl.is.injEq, Sl.own.injEq, D.py.injEq, D.ex.injEq, D.rf.injEq, PyData.int.injEq, PyData.bool.injEq, PyData.str.injEq, PyData.list.injEq, PyData.tuple.injEq, List.cons.injEq, if_true, if_false, eq_self, Bool.false_eq_true, Bool.true_eq_false, Bool.not_true, Bool.not_false, Bool.not_not, List.getElem?_cons_zero, List.getElem?_cons_succ, List.set_cons_zero, List.set_cons_succ, List.length_cons, List.length_nil, List.cons_append, List.nil_append, reduceCtorEq, List.replicate_zero, List.replicate_succ, Nat.reduceAdd, Nat.reduceSub, decide_true, decide_false, intsOf_map', blsOf_map', strsOf_map', map_int_inj, map_str_inj, map_bool_inj, map_itD_inj, itD_iff, sh_int, sh_bool, sh_none, sh_itD, sh_nil, sh_ints, sh_its, eqv_int, eqv_bool, eqv_str, eqv_itD, eqv_ints, eqv_strs, eqv_its, eqv_nil, Nat.zero_le, and_assoc, spd_pick]
      refine ⟨by decide +kernel, by rw [List.length_map]; decide +kernel, fun d hd => ?_⟩
      obtain ⟨q, hq, rfl⟩ := List.mem_map.mp hd
      refine hT _ _ ⟨rfl, its ++ [q], by simp, ?_, by simp at h2 ⊢; omega⟩
      rw [List.all_append, h1]
      simp [item_mem.mpr hq]
  · obtain ⟨rfl, its, rfl, h1, h2⟩ := h
    refine n its h1 (fun e => ?_) ?_
    · subst e
      simp at h2
      omega
    · simp at h2
      omega
def sp__law_meant : Spec0 := fun ds N _ => ∃ its : List Itm, ds = [.py (.list (its.map itD))] ∧ its.all itemOk = true ∧ its.length ≤ 400 ∧ N (.py (.list ((setOf its).map .int)))
def w__law_meant : WS Unit :=
  wSeq (wSet 1 (wDisp .list (wNil))) (wSeq (wFor (wItL (wVar 0)) (wgName 2) (wSet 1 (wOp fAdd kAdd (wVar 1) (wCall0 sp__law_numbers (wCons (wVar 2) (wNil)))))) (wRet (wSortSet (wVar 1))))
theorem law_meant : ∀ ds θ N Nx, sp__law_meant.up ds θ N Nx → w__law_meant (bodyEN N Nx) (startD 3 ds) θ := by
  rintro ds θ N Nx ⟨its, rfl, ok, hl, n⟩
  simp only [w__law_meant, wVar, wOwn, wC, wOp, wT, wChain, wAndT, wOrT, wNotT, wAnd, wOr, wNot, wIf, wNil, wCons, wDisp, wCall, wCall0, wNoPart, wPart, wSl, wRevL, wBlt, wItL, wItT, wItS, wRg1, wRg2, wEnum, wZip, wLR, wLR2, wYes, wM1, wFmt, wJoined, wIsi, wNeg, wNewD, wOwnCat, wPar2, wNext, wSeq, wNever, wSet, wNew, wAug, wExtend, wAppend, wPut, wFrz, wRet, wRetOwn, wRetN, wDrop, wIfS, wgName, wgTup, wUnp, wRaise, bodyEN, wLc, wFor, wSortSet, e_add_i, e_add_s, e_add_l, e_add_t, e_kadd_i, e_kadd_s, e_kadd_l, e_kadd_t, e_sub, e_kt, e_mul_i, e_mul_l, e_kmul_i, e_kmul_l, e_div, e_kdiv, e_mod, e_kmod, e_cmp, e_eq, e_ne, e_keq, e_is_n, e_is_b, e_isn_n, e_isn_b, e_non_n, e_non_l, e_non_t, e_non_i, e_non_s, e_non_b, e_non_x, e_in_l, e_in_t, e_ni_l, e_ni_t, e_kin_l, e_kin_t, e_kin_s, e_ix_l, e_ix_t, e_ix_s, e_kix_l, e_kix_t, e_kix_s, e_sl_l, e_sl_t, e_sl_s, e_len_l, e_len_t, e_len_s, e_klen_l, e_klen_t, e_klen_s, e_kany, e_list_l, e_list_t, e_tup_l, e_tup_t, e_sum, e_max, e_max2, e_min, e_kne, e_kne2, e_all, e_str, e_kstr, e_int, e_kint, e_split, e_ksplit, e_part, e_kpart, e_join, e_kjoin, e_pys0, e_pys1, e_sa0, e_sa1, e_wipe0, e_wipe1, e_js0, e_js1, e_ty_i, e_ty_b, e_ty_n, e_ty_s, e_ty_l, e_ty_t, e_isi_ii, e_isi_ib, e_isi_in, e_isi_is, e_isi_il, e_isi_it, e_isi_bi, e_isi_bb, e_isi_bn, e_isi_bs, e_isi_bl, e_isi_bt, e_isi_li, e_isi_lb, e_isi_ln, e_isi_ls, e_isi_ll, e_isi_lt, e_isi_ti, e_isi_tb, e_isi_tn, e_isi_ts, e_isi_tl, e_isi_tt, e_isi_si, e_isi_sb, e_isi_sn, e_isi_ss, e_isi_sl, e_isi_st, e_up, e_st0, e_st1, e_st2, exists_eq_left, exists_eq_left', exists_eq_right, exists_eq_right', exists_eq', exists_eq, true_and, and_true, and_self, false_and, and_false, exists_and_left, exists_and_right, exists_const, Option.some.injEq, Option.map_some, Option.map_none, Sl.is.injEq, Sl.own.injEq, D.py.injEq, D.ex.injEq, D.rf.injEq, PyData.int.injEq, PyData.bool.injEq, PyData.str.injEq, PyData.list.injEq, PyData.tuple.injEq, List.cons.injEq, if_true, if_false, eq_self, Bool.false_eq_true, Bool.true_eq_false, Bool.not_true, Bool.not_false, Bool.not_not, List.getElem?_cons_zero, List.getElem?_cons_succ, List.set_cons_zero, List.set_cons_succ, List.length_cons, List.length_nil, List.cons_append, List.nil_append, reduceCtorEq, List.replicate_zero, List.replicate_succ, Nat.reduceAdd, Nat.reduceSub, decide_true, decide_false, intsOf_map', blsOf_map', strsOf_map', map_int_inj, map_str_inj, map_bool_inj, map_itD_inj, itD_iff, sh_int, sh_bool, sh_none, sh_itD, sh_nil, sh_ints, sh_its, eqv_int, eqv_bool, eqv_str, eqv_itD, eqv_ints, eqv_strs, eqv_its, eqv_nil, Nat.zero_le, and_assoc, List.map_map]
  refine forGo_inv (D.py ∘ itD) (fun (xs : List Itm) (ρ : DS) (_ : Unit) => ∃ (ys : List Itm) (x : Sl), its = ys ++ xs ∧ ρ = [.is (.py (.list (its.map itD))), .is (.py (.list ((ys.flatMap numbersOf).map .int))), x]) (fun q xs ρ θ h R hR => ?_) (fun ρ θ h => ?_) its _ _ ⟨[], .no, rfl, rfl⟩
  · obtain ⟨ys, x, e, rfl⟩ := h
    have okq : itemOk q = true := List.all_eq_true.mp ok q (by rw [e]; simp)
    simp only [sp__law_numbers, Function.comp, wVar, wOwn, wC, wOp, wT, wChain, wAndT, wOrT, wNotT, wAnd, wOr, wNot, wIf, wNil, wCons, wDisp, wCall, wCall0, wNoPart, wPart, wSl, wRevL, wBlt, wItL, wItT, wItS, wRg1, wRg2, wEnum, wZip, wLR, wLR2, wYes, wM1, wFmt, wJoined, wIsi, wNeg, wNewD, wOwnCat, wPar2, wNext, wSeq, wNever, wSet, wNew, wAug, wExtend, wAppend, wPut, wFrz, wRet, wRetOwn, wRetN, wDrop, wIfS, wgName, wgTup, wUnp, wRaise, bodyEN, wLc, wFor, wSortSet, e_add_i, e_add_s, e_add_l, e_add_t, e_kadd_i, e_kadd_s, e_kadd_l, e_kadd_t, e_sub, e_kt, e_mul_i, e_mul_l, e_kmul_i, e_kmul_l, e_div, e_kdiv, e_mod, e_kmod, e_cmp, e_eq, e_ne, e_keq, e_is_n, e_is_b, e_isn_n, e_isn_b, e_non_n, e_non_l, e_non_t, e_non_i, e_non_s, e_non_b, e_non_x, e_in_l, e_in_t, e_ni_l, e_ni_t, e_kin_l, e_kin_t, e_kin_s, e_ix_l, e_ix_t, e_ix_s, e_kix_l, e_kix_t, e_kix_s, e_sl_l, e_sl_t, e_sl_s, e_len_l, e_len_t, e_len_s, e_klen_l, e_klen_t, e_klen_s, e_kany, e_list_l, e_list_t, e_tup_l, e_tup_t, e_sum, e_max, e_max2, e_min, e_kne, e_kne2, e_all, e_str, e_kstr, e_int, e_kint, e_split, e_ksplit, e_part, e_kpart, e_join, e_kjoin, e_pys0, e_pys1, e_sa0, e_sa1, e_wipe0, e_wipe1, e_js0, e_js1, e_ty_i, e_ty_b, e_ty_n, e_ty_s, e_ty_l, e_ty_t, e_isi_ii, e_isi_ib, e_isi_in, e_isi_is, e_isi_il, e_isi_it, e_isi_bi, e_isi_bb, e_isi_bn, e_isi_bs, e_isi_bl, e_isi_bt, e_isi_li, e_isi_lb, e_isi_ln, e_isi_ls, e_isi_ll, e_isi_lt, e_isi_ti, e_isi_tb, e_isi_tn, e_isi_ts, e_isi_tl, e_isi_tt, e_isi_si, e_isi_sb, e_isi_sn, e_isi_ss, e_isi_sl, e_isi_st, e_up, e_st0, e_st1, e_st2, exists_eq_left, exists_eq_left', exists_eq_right, exists_eq_right', exists_eq', exists_eq, true_and, and_true, and_self, false_and, and_false, exists_and_left, exists_and_right, exists_const, Option.some.injEq, Option.map_some, Option.map_none, Sl.is.injEq, Sl.own.injEq, D.py.injEq, D.ex.injEq, D.rf.injEq, PyData.int.injEq, PyData.bool.injEq, PyData.str.injEq, PyData.list.injEq, PyData.tuple.injEq, List.cons.injEq, if_true, if_false, eq_self, Bool.false_eq_true, Bool.true_eq_false, Bool.not_true, Bool.not_false, Bool.not_not, List.getElem?_cons_zero, List.getElem?_cons_succ, List.set_cons_zero, List.set_cons_succ, List.length_cons, List.length_nil, List.cons_append, List.nil_append, reduceCtorEq, List.replicate_zero, List.replicate_succ, Nat.reduceAdd, Nat.reduceSub, decide_true, decide_false, intsOf_map', blsOf_map', strsOf_map', map_int_inj, map_str_inj, map_bool_inj, map_itD_inj, itD_iff, sh_int, sh_bool, sh_none, sh_itD, sh_nil, sh_ints, sh_its, eqv_int, eqv_bool, eqv_str, eqv_itD, eqv_ints, eqv_strs, eqv_its, eqv_nil, Nat.zero_le, and_assoc]
    refine ⟨q, rfl, rfl, rfl, okq, ?_, hR _ _ ⟨ys ++ [q], .is (.py (itD q)), by rw [e]; simp, ?_⟩⟩
    · have h1 := flat_len (its := ys) (by
        rw [List.all_eq_true] at ok ⊢
        exact fun z hz => ok z (by rw [e]; exact List.mem_append_left _ hz))
      have h2 := (rg_items q (item_mem.mp okq)).2.2
      have h3 : its.length = ys.length + (xs.length + 1) := by rw [e]; simp
      rw [List.length_map, List.length_map]
      exact le_line (by omega)
    · simp
  · obtain ⟨ys, x, e, rfl⟩ := h
    simp only [wVar, wOwn, wC, wOp, wT, wChain, wAndT, wOrT, wNotT, wAnd, wOr, wNot, wIf, wNil, wCons, wDisp, wCall, wCall0, wNoPart, wPart, wSl, wRevL, wBlt, wItL, wItT, wItS, wRg1, wRg2, wEnum, wZip, wLR, wLR2, wYes, wM1, wFmt, wJoined, wIsi, wNeg, wNewD, wOwnCat, wPar2, wNext, wSeq, wNever, wSet, wNew, wAug, wExtend, wAppend, wPut, wFrz, wRet, wRetOwn, wRetN, wDrop, wIfS, wgName, wgTup, wUnp, wRaise, bodyEN, wLc, wFor, wSortSet, e_add_i, e_add_s, e_add_l, e_add_t, e_kadd_i, e_kadd_s, e_kadd_l, e_kadd_t, e_sub, e_kt, e_mul_i, e_mul_l, e_kmul_i, e_kmul_l, e_div, e_kdiv, e_mod, e_kmod, e_cmp, e_eq, e_ne, e_keq, e_is_n, e_is_b, e_isn_n, e_isn_b, e_non_n, e_non_l, e_non_t, e_non_i, e_non_s, e_non_b, e_non_x, e_in_l, e_in_t, e_ni_l, e_ni_t, e_kin_l, e_kin_t, e_kin_s, e_ix_l, e_ix_t, e_ix_s, e_kix_l, e_kix_t, e_kix_s, e_sl_l, e_sl_t, e_sl_s, e_len_l, e_len_t, e_len_s, e_klen_l, e_klen_t, e_klen_s, e_kany, e_list_l, e_list_t, e_tup_l, e_tup_t, e_sum, e_max, e_max2, e_min, e_kne, e_kne2, e_all, e_str, e_kstr, e_int, e_kint, e_split, e_ksplit, e_part, e_kpart, e_join, e_kjoin, e_pys0, e_pys1, e_sa0, e_sa1, e_wipe0, e_wipe1, e_js0, e_js1, e_ty_i, e_ty_b, e_ty_n, e_ty_s, e_ty_l, e_ty_t, e_isi_ii, e_isi_ib, e_isi_in, e_isi_is, e_isi_il, e_isi_it, e_isi_bi, e_isi_bb, e_isi_bn, e_isi_bs, e_isi_bl, e_isi_bt, e_isi_li, e_isi_lb, e_isi_ln, e_isi_ls, e_isi_ll, e_isi_lt, e_isi_ti, e_isi_tb, e_isi_tn, e_isi_ts, e_isi_tl, e_isi_tt, e_isi_si, e_isi_sb, e_isi_sn, e_isi_ss, e_isi_sl, e_isi_st, e_up, e_st0, e_st1, e_st2, exists_eq_left, exists_eq_left', exists_eq_right, exists_eq_right', exists_eq', exists_eq, true_and, and_true, and_self, false_and, and_false, exists_and_left, exists_and_right, exists_const, Option.some.injEq, Option.map_some, Option.map_none, Sl.is.injEq, Sl.own.injEq, D.py.injEq, D.ex.injEq, D.rf.injEq, PyData.int.injEq, PyData.bool.injEq, PyData.str.injEq, PyData.list.injEq, PyData.tuple.injEq, List.cons.injEq, if_true, if_false, eq_self, Bool.false_eq_true, Bool.true_eq_false, Bool.not_true, Bool.not_false, Bool.not_not, List.getElem?_cons_zero, List.getElem?_cons_succ, List.set_cons_zero, List.set_cons_succ, List.length_cons, List.length_nil, List.cons_append, List.nil_append, reduceCtorEq, List.replicate_zero, List.replicate_succ, Nat.reduceAdd, Nat.reduceSub, decide_true, decide_false, intsOf_map', blsOf_map', strsOf_map', map_int_inj, map_str_inj, map_bool_inj, map_itD_inj, itD_iff, sh_int, sh_bool, sh_none, sh_itD, sh_nil, sh_ints, sh_its, eqv_int, eqv_bool, eqv_str, eqv_itD, eqv_ints, eqv_strs, eqv_its, eqv_nil, Nat.zero_le, and_assoc]
    have ey : ys = its := by rw [e]; simp
    subst ey
    refine ⟨?_, fun k hk => ?_, ?_⟩
    · have := flat_len ok
      omega
    · obtain ⟨q, _, h⟩ := List.mem_flatMap.mp hk
      have := ten_iff.mp (numbersOf_ten h)
      omega
    · rw [setOf_eq]
      exact n
/-! the same for lists of data -/
theorem lcGo_fm2 {Θ α : Type} {g : WG} {tt : WT Θ} {wl : WE Θ} {ρ : DS} {N : D → Θ → Prop} {θ : Θ} (d : α → PyData) (p : α → Bool) (f : α → PyData) (xs : List α)
    (h : ∀ x ∈ xs, ∀ (T : D → Θ → Prop) (F : Θ → Prop), (if p x = true then T (.py (f x)) θ else F θ) → g (.py (d x)) ρ (fun ρ1 => tt ρ1 θ (fun b θ1 => if b = true then wl ρ1 θ1 T (fun _ _ => False) else F θ1) (fun _ _ => False)))
    (hl : xs.length ≤ sizeLine) (n : N (.py (.list ((xs.filter p).map f))) θ) : lcGo g tt wl ρ N ((xs.map d).map D.py) [] θ := by
  rw [List.map_map]
  exact lcGo_fm (D.py ∘ d) p f xs [] h (by simpa using hl) (by simpa using n)
theorem lcGo_map2 {Θ α : Type} {g : WG} {wl : WE Θ} {ρ : DS} {N : D → Θ → Prop} {θ : Θ} (d : α → PyData) (f : α → PyData) (xs : List α)
    (h : ∀ x ∈ xs, ∀ T : D → Θ → Prop, T (.py (f x)) θ → g (.py (d x)) ρ (fun ρ1 => wl ρ1 θ T (fun _ _ => False))) (hl : xs.length ≤ sizeLine) (n : N (.py (.list (xs.map f))) θ) : lcGo g wYes wl ρ N ((xs.map d).map D.py) [] θ := by
  rw [List.map_map]
  exact lcGo_map (D.py ∘ d) f xs h hl n
theorem forGo_inv2 {Θ α : Type} {g : WG} {body : WS Θ} {N : EN Θ} (d : α → PyData) (I : List α → DS → Θ → Prop) (h : ∀ x xs ρ θ, I (x :: xs) ρ θ → ∀ R : DS → Θ → Prop, (∀ ρ' θ', I xs ρ' θ' → R ρ' θ') → g (.py (d x)) ρ fun ρ1 => body { N with nx := R, ct := R, bk := N.nx } ρ1 θ)
    (hn : ∀ ρ θ, I [] ρ θ → N.nx ρ θ) (xs : List α) (ρ : DS) (θ : Θ) (i : I xs ρ θ) : forGo g body N ((xs.map d).map D.py) ρ θ := by
  rw [List.map_map]
  exact forGo_inv (D.py ∘ d) I h hn xs ρ θ i
end RT
end
section
set_option Elab.async false
set_option linter.all false
set_option maxRecDepth 100000
set_option maxHeartbeats 8000000
namespace RT
open PySem PySem.Spec PyProof.Rows L2
/-! ### texts that a law joins -/
/-- the texts of items, joined -/
def joinI (its : List Itm) : Str := Txt.join "," (its.map textOf)
theorem join_fold (its : List Itm) : Txt.join (Str.ofString ",") (its.map textOf) = joinI its := rfl
theorem plainOf_eq (ns : List Int) : plainOf ns = joinI (runsOf ns) := rfl
theorem split_joinI {its : List Itm} (ok : its.all itemOk = true) (ne : its ≠ []) : Txt.split (joinI its) "," = its.map textOf := by
    refine TL.split_join (s := 44) (S := []) (by decide +kernel) (by decide +kernel) (fun e => ne (List.map_eq_nil_iff.mp e)) fun p hp => ?_
    obtain ⟨q, hq, rfl⟩ := List.mem_map.mp hp
    exact (item_texts q (item_mem.mp (List.all_eq_true.mp ok q hq))).2.2.2
theorem itemsIn_join {its : List Itm} (ok : its.all itemOk = true) (ne : its ≠ []) : itemsIn (joinI its) = some its := by
  unfold itemsIn
  rw [split_joinI ok ne]
  refine mapM_some.mpr ?_
  rw [List.map_map]
  refine List.map_congr_left fun q hq => ?_
  exact itemIn_some.mpr ⟨List.all_eq_true.mp ok q hq, rfl⟩
theorem tok_join {its : List Itm} (ok : its.all itemOk = true) (hl : its.length ≤ 1000) : TOk (joinI its) := TOk.join ok hl
theorem kjoin_ok {its : List Itm} (ok : its.all itemOk = true) (hl : its.length ≤ 1000) : (∀ ys, its.map textOf = ys → (ys.map (·.length)).sum + ys.length * ("," : Str).length ≤ 16777216) = True := eq_true fun ys e => by
  subst e
  exact joins_ok ok hl
theorem lc_words {Θ : Type} {ρ : DS} {N : D → Θ → Prop} {θ : Θ} {i : Nat} {its : List Itm} (ok : its.all itemOk = true) (hl : its.length ≤ 1000) (hi : i < ρ.length) (n : N (.py (.list ((its.map textOf).map .str))) θ) :
    lcGo (wgName i) wYes (wCall0 sp__law_word (wCons (wVar i) wNil)) ρ N (its.map (D.py ∘ itD)) [] θ := by
  refine lcGo_map (D.py ∘ itD) (fun q => .str (textOf q)) _ (fun q hq T t => ?_) (le_line (by omega)) ?_
  · simp only [wgName, wCall0, wCons, wVar, wNil, List.getElem?_set_self hi, sp__law_word, Function.comp, wVar, wOwn, wC, wOp, wT, wChain, wAndT, wOrT, wNotT, wAnd, wOr, wNot, wIf, wNil, wCons, wDisp, wCall, wCall0, wNoPart, wPart, wSl, wRevL, wBlt, wItL, wItT, wItS, wRg1, wRg2, wEnum, wZip, wLR, wLR2, wYes, wM1, wFmt, wJoined, wIsi, wNeg, wNewD, wOwnCat, wPar2, wNext, wSeq, wNever, wSet, wNew, wAug, wExtend, wAppend, wPut, wFrz, wRet, wRetOwn, wRetN, wDrop, wIfS, wgName, wgTup, wUnp, wRaise, bodyEN, wLc, wFor, wSortSet, e_add_i, e_add_s, e_add_l, e_add_t, e_kadd_i, e_kadd_s, e_kadd_l, e_kadd_t, e_sub, e_kt, e_mul_i, e_mul_l, e_kmul_i, e_kmul_l, e_div, e_kdiv, e_mod, e_kmod, e_cmp, e_eq, e_ne, e_keq, e_is_n, e_is_b, e_isn_n, e_isn_b, e_non_n, e_non_l, e_non_t, e_non_i, e_non_s, e_non_b, e_non_x, e_in_l, e_in_t, e_ni_l, e_ni_t, e_kin_l, e_kin_t, e_kin_s, e_ix_l, e_ix_t, e_ix_s, e_kix_l, e_kix_t, e_kix_s, e_sl_l, e_sl_t, e_sl_s, e_len_l, e_len_t, e_len_s, e_klen_l, e_klen_t, e_klen_s, e_kany, e_list_l, e_list_t, e_tup_l, e_tup_t, e_sum, e_max, e_max2, e_min, e_kne, e_kne2, e_all, e_str, e_kstr, e_int, e_kint, e_split, e_ksplit, e_part, e_kpart, e_join, e_kjoin, e_pys0, e_pys1, e_sa0, e_sa1, e_wipe0, e_wipe1, e_js0, e_js1, e_ty_i, e_ty_b, e_ty_n, e_ty_s, e_ty_l, e_ty_t, e_isi_ii, e_isi_ib, e_isi_in, e_isi_is, e_isi_il, e_isi_it, e_isi_bi, e_isi_bb, e_isi_bn, e_isi_bs, e_isi_bl, e_isi_bt, e_isi_li, e_isi_lb, e_isi_ln, e_isi_ls, e_isi_ll, e_isi_lt, e_isi_ti, e_isi_tb, e_isi_tn, e_isi_ts, e_isi_tl, e_isi_tt, e_isi_si, e_isi_sb, e_isi_sn, e_isi_ss, e_isi_sl, e_isi_st, e_up, e_st0, e_st1, e_st2, exists_eq_left, exists_eq_left', exists_eq_right, exists_eq_right', exists_eq', exists_eq, true_and, and_true, and_self, false_and, and_false, exists_and_left, exists_and_right, exists_const, Option.some.injEq, Option.map_some, Option.map_none, Sl.is.injEq, Sl.own.injEq, D.py.injEq, D.ex.injEq, D.rf.injEq, PyData.int.injEq, PyData.bool.injEq, PyData.str.injEq, PyData.list.injEq, PyData.tuple.injEq, List.cons.injEq, if_true, if_false, eq_self, Bool.false_eq_true, Bool.true_eq_false, Bool.not_true, Bool.not_false, Bool.not_not, List.getElem?_cons_zero, List.getElem?_cons_succ, List.set_cons_zero, List.set_cons_succ, List.length_cons, List.length_nil, List.cons_append, List.nil_append, reduceCtorEq, List.replicate_zero, List.replicate_succ, Nat.reduceAdd, Nat.reduceSub, decide_true, decide_false, intsOf_map', blsOf_map', strsOf_map', map_int_inj, map_str_inj, map_bool_inj, map_itD_inj, itD_iff, sh_int, sh_bool, sh_none, sh_itD, sh_nil, sh_ints, sh_its, eqv_int, eqv_bool, eqv_str, eqv_itD, eqv_ints, eqv_strs, eqv_its, eqv_nil, Nat.zero_le, and_assoc]
    exact ⟨q, rfl, rfl, rfl, List.all_eq_true.mp ok q hq, t⟩
  · rw [List.map_map] at n
    exact n
theorem numbers_ne : ∀ q ∈ itemsAll, numbersOf q ≠ [] := by decide +kernel
theorem setOf_ne {its : List Itm} (ok : its.all itemOk = true) (ne : its ≠ []) : setOf its ≠ [] := by
  cases its with
  | nil => exact absurd rfl ne
  | cons q its =>
    have hq : itemOk q = true := List.all_eq_true.mp ok q List.mem_cons_self
    have := numbers_ne q (item_mem.mp hq)
    cases hn : numbersOf q with
    | nil => exact absurd hn this
    | cons k r =>
      intro e
      have : k ∈ setOf (q :: its) := mem_setOf.mpr ⟨q, List.mem_cons_self, by rw [hn]; exact List.mem_cons_self⟩
      rw [e] at this
      cases this
structure Txts (its : List Itm) : Prop where
  ok : its.all itemOk = true
  it : itemsD (.str (joinI its)) = some its
  tf : TFine (.str (joinI its))
  sh : SeqAt.shaped (.str (joinI its)) = true
  kj : (∀ ys, its.map textOf = ys → (ys.map (·.length)).sum + ys.length * ("," : Str).length ≤ 16777216) = True
  l4 : (its.length ≤ 400) = True
theorem txts {its : List Itm} (ok : its.all itemOk = true) (ne : its ≠ []) (hl : its.length ≤ 400) : Txts its :=
  ⟨ok, itemsIn_join ok ne, tok_join ok (by omega), sh_str (tok_join ok (by omega)).1, kjoin_ok ok (by omega), eq_true hl⟩
theorem lc_w {ρ : DS} {N : D → DrawSt → Prop} {θ : DrawSt} {i : Nat} {its : List Itm} (t : Txts its) (n : N (.py (.list ((its.map textOf).map .str))) θ) (hi : i < ρ.length := by simp) :
    lcGo (wgName i) wYes (wCall0 sp__law_word (wCons (wVar i) wNil)) ρ N ((its.map itD).map D.py) [] θ := by
  rw [List.map_map]
  exact lc_words t.ok (by have := of_eq_true t.l4; omega) hi n
mutual
theorem eqv_self : ∀ d : PyData, d.canLay0 = true → PyData.eqv d d = true
  | .none, _ => by simp [PyData.eqv]
  | .bool _, _ => by simp [PyData.eqv]
  | .int _, _ => by simp [PyData.eqv]
  | .str _, _ => by simp [PyData.eqv]
  | .list xs, h => by
    simp only [PyData.eqv]
    exact eqvAll_self xs (by simpa [PyData.canLay0] using h)
  | .tuple xs, h => by
    simp only [PyData.eqv]
    exact eqvAll_self xs (by simpa [PyData.canLay0] using h)
  | .dict _, h => by simp [PyData.canLay0] at h
theorem eqvAll_self : ∀ ds : List PyData, PyData.canLayAll0 ds = true → PyData.eqvAll ds ds = true
  | [], _ => by simp [PyData.eqvAll]
  | d :: ds, h => by
    simp only [PyData.canLayAll0, Bool.and_eq_true] at h
    simp only [PyData.eqvAll, eqv_self d h.1, eqvAll_self ds h.2, Bool.and_self]
end
theorem shp_self {k : Nat} {d : PyData} (h : Shp k d) : PyData.eqv d d = true := eqv_self d h.1
/-- numbers as items -/
def oneI (k : Int) : Itm := (k, k, 1)
theorem textOf_one (k : Int) : textOf (oneI k) = iStr k := by
  unfold textOf oneI
  rw [if_pos rfl]
theorem ones_all : ∀ ns ∈ subs ten, (ns.map oneI).all itemOk = true ∧ setOf (ns.map oneI) = ns := by decide +kernel
theorem dec_comm {α : Type} {a b : α} [Decidable (a = b)] [Decidable (b = a)] : decide (a = b) = decide (b = a) := decide_eq_decide.mpr eq_comm
theorem forGo_rg {Θ : Type} {g : WG} {body : WS Θ} {N : EN Θ} {lo : Int} {n : Nat} (I : Nat → DS → Θ → Prop) (h : ∀ i, i < n → ∀ ρ θ, I i ρ θ → ∀ R : DS → Θ → Prop, (∀ ρ' θ', I (i + 1) ρ' θ' → R ρ' θ') → g (.py (.int (lo + (i : Int)))) ρ fun ρ1 => body { N with nx := R, ct := R, bk := N.nx } ρ1 θ)
    (hn : ∀ ρ θ, I n ρ θ → N.nx ρ θ) {ρ : DS} {θ : Θ} (h0 : I 0 ρ θ) : forGo g body N ((rgD lo n).map D.py) ρ θ := by
  unfold rgD
  refine forGo_inv2 (fun i : Nat => .int (lo + (i : Nat))) (fun xs ρ θ => ∃ i, i ≤ n ∧ xs = (List.range n).drop i ∧ I i ρ θ) (fun x xs ρ θ hx R hR => ?_) (fun ρ θ hx => ?_) _ _ _ ⟨0, Nat.zero_le _, rfl, h0⟩
  · obtain ⟨i, hi, e, hI⟩ := hx
    have lt : i < n := by
      refine Nat.lt_of_le_of_ne hi fun q => ?_
      subst q
      rw [List.drop_eq_nil_of_le (by simp)] at e
      cases e
    rw [List.drop_eq_getElem_cons (by simpa using lt)] at e
    injection e with e1 e2
    have ex : x = i := by rw [e1, List.getElem_range]
    subst ex
    exact h x lt ρ θ hI R fun ρ' θ' q => hR ρ' θ' ⟨x + 1, lt, e2, q⟩
  · obtain ⟨i, hi, e, hI⟩ := hx
    have : i = n := by
      have := congrArg List.length e
      simp at this
      omega
    subst this
    exact hn ρ θ hI
end RT
end
section
set_option Elab.async false
set_option linter.all false
set_option maxRecDepth 100000
set_option maxHeartbeats 8000000
namespace RT
open PySem PySem.Spec PyProof.Rows L2
/-! ### given functions of k02 -/
def sp_is_text : Spec0 := fun ds N _ => ∃ d, ds = [.py d] ∧ TFine d ∧ N (.py (.bool (itemsD d).isSome))
def w_is_text : WS Unit :=
  wRet (wOp fIsN kTrue (wCall0 sp_items_in (wCons (wVar 0) (wNil))) (wC .none))
theorem law_is_text : ∀ ds θ N Nx, sp_is_text.up ds θ N Nx → w_is_text (bodyEN N Nx) (startD 1 ds) θ := by
  rintro ds θ N Nx ⟨d, rfl, fn, n⟩
  simp only [w_is_text, sp_items_in, wVar, wOwn, wC, wOp, wT, wChain, wAndT, wOrT, wNotT, wAnd, wOr, wNot, wIf, wNil, wCons, wDisp, wCall, wCall0, wNoPart, wPart, wSl, wRevL, wBlt, wItL, wItT, wItS, wRg1, wRg2, wEnum, wZip, wLR, wLR2, wYes, wM1, wFmt, wJoined, wIsi, wNeg, wNewD, wOwnCat, wPar2, wNext, wSeq, wNever, wSet, wNew, wAug, wExtend, wAppend, wPut, wFrz, wRet, wRetOwn, wRetN, wDrop, wIfS, wgName, wgTup, wUnp, wRaise, bodyEN, wLc, wFor, wSortSet, e_add_i, e_add_s, e_add_l, e_add_t, e_kadd_i, e_kadd_s, e_kadd_l, e_kadd_t, e_sub, e_kt, e_mul_i, e_mul_l, e_kmul_i, e_kmul_l, e_div, e_kdiv, e_mod, e_kmod, e_cmp, e_eq, e_ne, e_keq, e_is_n, e_is_b, e_isn_n, e_isn_b, e_non_n, e_non_l, e_non_t, e_non_i, e_non_s, e_non_b, e_non_x, e_in_l, e_in_t, e_ni_l, e_ni_t, e_kin_l, e_kin_t, e_kin_s, e_ix_l, e_ix_t, e_ix_s, e_kix_l, e_kix_t, e_kix_s, e_sl_l, e_sl_t, e_sl_s, e_len_l, e_len_t, e_len_s, e_klen_l, e_klen_t, e_klen_s, e_kany, e_list_l, e_list_t, e_tup_l, e_tup_t, e_sum, e_max, e_max2, e_min, e_kne, e_kne2, e_all, e_str, e_kstr, e_int, e_kint, e_split, e_ksplit, e_part, e_kpart, e_join, e_kjoin, e_pys0, e_pys1, e_sa0, e_sa1, e_wipe0, e_wipe1, e_js0, e_js1, e_ty_i, e_ty_b, e_ty_n, e_ty_s, e_ty_l, e_ty_t, e_isi_ii, e_isi_ib, e_isi_in, e_isi_is, e_isi_il, e_isi_it, e_isi_bi, e_isi_bb, e_isi_bn, e_isi_bs, e_isi_bl, e_isi_bt, e_isi_li, e_isi_lb, e_isi_ln, e_isi_ls, e_isi_ll, e_isi_lt, e_isi_ti, e_isi_tb, e_isi_tn, e_isi_ts, e_isi_tl, e_isi_tt, e_isi_si, e_isi_sb, e_isi_sn, e_isi_ss, e_isi_sl, e_isi_st, e_up, e_st0, e_st1, e_st2, exists_eq_left, exists_eq_left', exists_eq_right, exists_eq_right', exists_eq', exists_eq, true_and, and_true, and_self, false_and, and_false, exists_and_left, exists_and_right, exists_const, Option.some.injEq, Option.map_some, Option.map_none, Sl.is.injEq, Sl.own.injEq, D.py.injEq, D.ex.injEq, D.rf.injEq, PyData.int.injEq, PyData.bool.injEq, PyData.str.injEq, PyData.list.injEq, PyData.tuple.injEq, List.cons.injEq, if_true, if_false, eq_self, Bool.false_eq_true, Bool.true_eq_false, Bool.not_true, Bool.not_false, Bool.not_not, List.getElem?_cons_zero, List.getElem?_cons_succ, List.set_cons_zero, List.set_cons_succ, List.length_cons, List.length_nil, List.cons_append, List.nil_append, reduceCtorEq, List.replicate_zero, List.replicate_succ, Nat.reduceAdd, Nat.reduceSub, decide_true, decide_false, intsOf_map', blsOf_map', strsOf_map', map_int_inj, map_str_inj, map_bool_inj, map_itD_inj, itD_iff, sh_int, sh_bool, sh_none, sh_itD, sh_nil, sh_ints, sh_its, eqv_int, eqv_bool, eqv_str, eqv_itD, eqv_ints, eqv_strs, eqv_its, eqv_nil, Nat.zero_le, and_assoc]
  refine ⟨fn, ?_⟩
  cases h : itemsD d <;> simp only [h, optL_some, optL_none, Option.isSome_some, Option.isSome_none, wVar, wOwn, wC, wOp, wT, wChain, wAndT, wOrT, wNotT, wAnd, wOr, wNot, wIf, wNil, wCons, wDisp, wCall, wCall0, wNoPart, wPart, wSl, wRevL, wBlt, wItL, wItT, wItS, wRg1, wRg2, wEnum, wZip, wLR, wLR2, wYes, wM1, wFmt, wJoined, wIsi, wNeg, wNewD, wOwnCat, wPar2, wNext, wSeq, wNever, wSet, wNew, wAug, wExtend, wAppend, wPut, wFrz, wRet, wRetOwn, wRetN, wDrop, wIfS, wgName, wgTup, wUnp, wRaise, bodyEN, wLc, wFor, wSortSet, e_add_i, e_add_s, e_add_l, e_add_t, e_kadd_i, e_kadd_s, e_kadd_l, e_kadd_t, e_sub, e_kt, e_mul_i, e_mul_l, e_kmul_i, e_kmul_l, e_div, e_kdiv, e_mod, e_kmod, e_cmp, e_eq, e_ne, e_keq, e_is_n, e_is_b, e_isn_n, e_isn_b, e_non_n, e_non_l, e_non_t, e_non_i, e_non_s, e_non_b, e_non_x, e_in_l, e_in_t, e_ni_l, e_ni_t, e_kin_l, e_kin_t, e_kin_s, e_ix_l, e_ix_t, e_ix_s, e_kix_l, e_kix_t, e_kix_s, e_sl_l, e_sl_t, e_sl_s, e_len_l, e_len_t, e_len_s, e_klen_l, e_klen_t, e_klen_s, e_kany, e_list_l, e_list_t, e_tup_l, e_tup_t, e_sum, e_max, e_max2, e_min, e_kne, e_kne2, e_all, e_str, e_kstr, e_int, e_kint, e_split, e_ksplit, e_part, e_kpart, e_join, e_kjoin, e_pys0, e_pys1, e_sa0, e_sa1, e_wipe0, e_wipe1, e_js0, e_js1, e_ty_i, e_ty_b, e_ty_n, e_ty_s, e_ty_l, e_ty_t, e_isi_ii, e_isi_ib, e_isi_in, e_isi_is, e_isi_il, e_isi_it, e_isi_bi, e_isi_bb, e_isi_bn, e_isi_bs, e_isi_bl, e_isi_bt, e_isi_li, e_isi_lb, e_isi_ln, e_isi_ls, e_isi_ll, e_isi_lt, e_isi_ti, e_isi_tb, e_isi_tn, e_isi_ts, e_isi_tl, e_isi_tt, e_isi_si, e_isi_sb, e_isi_sn, e_isi_ss, e_isi_sl, e_isi_st, e_up, e_st0, e_st1, e_st2, exists_eq_left, exists_eq_left', exists_eq_right, exists_eq_right', exists_eq', exists_eq, true_and, and_true, and_self, false_and, and_false, exists_and_left, exists_and_right, exists_const, Option.some.injEq, Option.map_some, Option.map_none, Sl.is.injEq, Sl.own.injEq, D.py.injEq, D.ex.injEq, D.rf.injEq, PyData.int.injEq, PyData.bool.injEq, PyData.str.injEq, PyData.list.injEq, PyData.tuple.injEq, List.cons.injEq, if_true, if_false, eq_self, Bool.false_eq_true, Bool.true_eq_false, Bool.not_true, Bool.not_false, Bool.not_not, List.getElem?_cons_zero, List.getElem?_cons_succ, List.set_cons_zero, List.set_cons_succ, List.length_cons, List.length_nil, List.cons_append, List.nil_append, reduceCtorEq, List.replicate_zero, List.replicate_succ, Nat.reduceAdd, Nat.reduceSub, decide_true, decide_false, intsOf_map', blsOf_map', strsOf_map', map_int_inj, map_str_inj, map_bool_inj, map_itD_inj, itD_iff, sh_int, sh_bool, sh_none, sh_itD, sh_nil, sh_ints, sh_its, eqv_int, eqv_bool, eqv_str, eqv_itD, eqv_ints, eqv_strs, eqv_its, eqv_nil, Nat.zero_le, and_assoc] at n ⊢ <;> exact n
def faultIx (ps : List Str) : PyData := match ps.findIdx? fun p => (itemIn p).isNone with
  | some i => .int (i : Nat)
  | none => .none
def sp_first_fault : Spec0 := fun ds N Nx => ∃ d, ds = [.py d] ∧ TFine d ∧ (match d with | .str z => N (.py (faultIx (Txt.split z ","))) | _ => Nx .text)
def w_first_fault : WS Unit :=
  wSeq (wIfS (wNotT (wT (wIsi "str" (wVar 0)))) (wRaise .text) (wNext)) (wSeq (wFor (wEnum (wCons (wM1 fSplit kSplit (wVar 0) (wC (.str ","))) (wNil))) (wgTup [1, 2]) (wIfS (wT (wOp fIs kTrue (wCall0 sp_item_in (wCons (wVar 2) (wNil))) (wC .none))) (wRet (wVar 1)) (wNext))) (wRet (wC .none)))
theorem law_first_fault : ∀ ds θ N Nx, sp_first_fault.up ds θ N Nx → w_first_fault (bodyEN N Nx) (startD 3 ds) θ := by
  rintro ds θ N Nx ⟨d, rfl, fn, n⟩
  cases d with
  | str z =>
    have ok : TOk z := fn
    have n : N (.py (faultIx (Txt.split z ","))) () := n
    have hl : z.length + 2 ≤ sizeLine := by have := ok.2; exact le_line' (by omega)
    simp only [w_first_fault, wVar, wOwn, wC, wOp, wT, wChain, wAndT, wOrT, wNotT, wAnd, wOr, wNot, wIf, wNil, wCons, wDisp, wCall, wCall0, wNoPart, wPart, wSl, wRevL, wBlt, wItL, wItT, wItS, wRg1, wRg2, wEnum, wZip, wLR, wLR2, wYes, wM1, wFmt, wJoined, wIsi, wNeg, wNewD, wOwnCat, wPar2, wNext, wSeq, wNever, wSet, wNew, wAug, wExtend, wAppend, wPut, wFrz, wRet, wRetOwn, wRetN, wDrop, wIfS, wgName, wgTup, wUnp, wRaise, bodyEN, wLc, wFor, wSortSet, e_add_i, e_add_s, e_add_l, e_add_t, e_kadd_i, e_kadd_s, e_kadd_l, e_kadd_t, e_sub, e_kt, e_mul_i, e_mul_l, e_kmul_i, e_kmul_l, e_div, e_kdiv, e_mod, e_kmod, e_cmp, e_eq, e_ne, e_keq, e_is_n, e_is_b, e_isn_n, e_isn_b, e_non_n, e_non_l, e_non_t, e_non_i, e_non_s, e_non_b, e_non_x, e_in_l, e_in_t, e_ni_l, e_ni_t, e_kin_l, e_kin_t, e_kin_s, e_ix_l, e_ix_t, e_ix_s, e_kix_l, e_kix_t, e_kix_s, e_sl_l, e_sl_t, e_sl_s, e_len_l, e_len_t, e_len_s, e_klen_l, e_klen_t, e_klen_s, e_kany, e_list_l, e_list_t, e_tup_l, e_tup_t, e_sum, e_max, e_max2, e_min, e_kne, e_kne2, e_all, e_str, e_kstr, e_int, e_kint, e_split, e_ksplit, e_part, e_kpart, e_join, e_kjoin, e_pys0, e_pys1, e_sa0, e_sa1, e_wipe0, e_wipe1, e_js0, e_js1, e_ty_i, e_ty_b, e_ty_n, e_ty_s, e_ty_l, e_ty_t, e_isi_ii, e_isi_ib, e_isi_in, e_isi_is, e_isi_il, e_isi_it, e_isi_bi, e_isi_bb, e_isi_bn, e_isi_bs, e_isi_bl, e_isi_bt, e_isi_li, e_isi_lb, e_isi_ln, e_isi_ls, e_isi_ll, e_isi_lt, e_isi_ti, e_isi_tb, e_isi_tn, e_isi_ts, e_isi_tl, e_isi_tt, e_isi_si, e_isi_sb, e_isi_sn, e_isi_ss, e_isi_sl, e_isi_st, e_up, e_st0, e_st1, e_st2, exists_eq_left, exists_eq_left', exists_eq_right, exists_eq_right', exists_eq', exists_eq, true_and, and_true, and_self, false_and, and_false, exists_and_left, exists_and_right, exists_const, Option.some.injEq, Option.map_some, Option.map_none, Sl.is.injEq, Sl.own.injEq, D.py.injEq, D.ex.injEq, D.rf.injEq, PyData.int.injEq, PyData.bool.injEq, PyData.str.injEq, PyData.list.injEq, PyData.tuple.injEq, List.cons.injEq, if_true, if_false, eq_self, Bool.false_eq_true, Bool.true_eq_false, Bool.not_true, Bool.not_false, Bool.not_not, List.getElem?_cons_zero, List.getElem?_cons_succ, List.set_cons_zero, List.set_cons_succ, List.length_cons, List.length_nil, List.cons_append, List.nil_append, reduceCtorEq, List.replicate_zero, List.replicate_succ, Nat.reduceAdd, Nat.reduceSub, decide_true, decide_false, intsOf_map', blsOf_map', strsOf_map', map_int_inj, map_str_inj, map_bool_inj, map_itD_inj, itD_iff, sh_int, sh_bool, sh_none, sh_itD, sh_nil, sh_ints, sh_its, eqv_int, eqv_bool, eqv_str, eqv_itD, eqv_ints, eqv_strs, eqv_its, eqv_nil, Nat.zero_le, and_assoc, enD_zip, List.map_map]
    refine ⟨by decide +kernel, hl, ?_⟩
    refine forGo_inv (D.py ∘ fun p : Str × Nat => .tuple [.int (p.2 : Nat), .str p.1]) (fun (xs : List (Str × Nat)) (ρ : DS) (_ : Unit) => ∃ (i : Nat) (s1 s2 : Sl), xs = ((Txt.split z ",").zipIdx).drop i ∧ i ≤ (Txt.split z ",").length ∧ (∀ j, j < i → ∀ p, (Txt.split z ",")[j]? = some p → (itemIn p).isNone = false) ∧ ρ = [.is (.py (.str z)), s1, s2])
      (fun p xs ρ θ h R hR => ?_) (fun ρ θ h => ?_) _ _ _ ⟨0, .no, .no, rfl, Nat.zero_le _, fun j h => absurd h (Nat.not_lt_zero j), rfl⟩
    · obtain ⟨i, s1, s2, e, hi, hp, rfl⟩ := h
      have lt : i < (Txt.split z ",").length := by
        refine Nat.lt_of_le_of_ne hi fun q => ?_
        rw [q] at e
        have : (Txt.split z ",").zipIdx.drop (Txt.split z ",").length = [] := List.drop_eq_nil_of_le (by simp)
        rw [this] at e
        cases e
      have lt' : i < (Txt.split z ",").zipIdx.length := by simpa using lt
      rw [List.drop_eq_getElem_cons lt'] at e
      injection e with e1 e2
      have ep : p = ((Txt.split z ",")[i], i) := by
        rw [e1, List.getElem_zipIdx]
        simp
      subst ep
      have tk := ok.split _ (List.getElem_mem lt)
      simp only [Function.comp, wVar, wOwn, wC, wOp, wT, wChain, wAndT, wOrT, wNotT, wAnd, wOr, wNot, wIf, wNil, wCons, wDisp, wCall, wCall0, wNoPart, wPart, wSl, wRevL, wBlt, wItL, wItT, wItS, wRg1, wRg2, wEnum, wZip, wLR, wLR2, wYes, wM1, wFmt, wJoined, wIsi, wNeg, wNewD, wOwnCat, wPar2, wNext, wSeq, wNever, wSet, wNew, wAug, wExtend, wAppend, wPut, wFrz, wRet, wRetOwn, wRetN, wDrop, wIfS, wgName, wgTup, wUnp, wRaise, bodyEN, wLc, wFor, wSortSet, e_add_i, e_add_s, e_add_l, e_add_t, e_kadd_i, e_kadd_s, e_kadd_l, e_kadd_t, e_sub, e_kt, e_mul_i, e_mul_l, e_kmul_i, e_kmul_l, e_div, e_kdiv, e_mod, e_kmod, e_cmp, e_eq, e_ne, e_keq, e_is_n, e_is_b, e_isn_n, e_isn_b, e_non_n, e_non_l, e_non_t, e_non_i, e_non_s, e_non_b, e_non_x, e_in_l, e_in_t, e_ni_l, e_ni_t, e_kin_l, e_kin_t, e_kin_s, e_ix_l, e_ix_t, e_ix_s, e_kix_l, e_kix_t, e_kix_s, e_sl_l, e_sl_t, e_sl_s, e_len_l, e_len_t, e_len_s, e_klen_l, e_klen_t, e_klen_s, e_kany, e_list_l, e_list_t, e_tup_l, e_tup_t, e_sum, e_max, e_max2, e_min, e_kne, e_kne2, e_all, e_str, e_kstr, e_int, e_kint, e_split, e_ksplit, e_part, e_kpart, e_join, e_kjoin, e_pys0, e_pys1, e_sa0, e_sa1, e_wipe0, e_wipe1, e_js0, e_js1, e_ty_i, e_ty_b, e_ty_n, e_ty_s, e_ty_l, e_ty_t, e_isi_ii, e_isi_ib, e_isi_in, e_isi_is, e_isi_il, e_isi_it, e_isi_bi, e_isi_bb, e_isi_bn, e_isi_bs, e_isi_bl, e_isi_bt, e_isi_li, e_isi_lb, e_isi_ln, e_isi_ls, e_isi_ll, e_isi_lt, e_isi_ti, e_isi_tb, e_isi_tn, e_isi_ts, e_isi_tl, e_isi_tt, e_isi_si, e_isi_sb, e_isi_sn, e_isi_ss, e_isi_sl, e_isi_st, e_up, e_st0, e_st1, e_st2, exists_eq_left, exists_eq_left', exists_eq_right, exists_eq_right', exists_eq', exists_eq, true_and, and_true, and_self, false_and, and_false, exists_and_left, exists_and_right, exists_const, Option.some.injEq, Option.map_some, Option.map_none, Sl.is.injEq, Sl.own.injEq, D.py.injEq, D.ex.injEq, D.rf.injEq, PyData.int.injEq, PyData.bool.injEq, PyData.str.injEq, PyData.list.injEq, PyData.tuple.injEq, List.cons.injEq, if_true, if_false, eq_self, Bool.false_eq_true, Bool.true_eq_false, Bool.not_true, Bool.not_false, Bool.not_not, List.getElem?_cons_zero, List.getElem?_cons_succ, List.set_cons_zero, List.set_cons_succ, List.length_cons, List.length_nil, List.cons_append, List.nil_append, reduceCtorEq, List.replicate_zero, List.replicate_succ, Nat.reduceAdd, Nat.reduceSub, decide_true, decide_false, intsOf_map', blsOf_map', strsOf_map', map_int_inj, map_str_inj, map_bool_inj, map_itD_inj, itD_iff, sh_int, sh_bool, sh_none, sh_itD, sh_nil, sh_ints, sh_its, eqv_int, eqv_bool, eqv_str, eqv_itD, eqv_ints, eqv_strs, eqv_its, eqv_nil, Nat.zero_le, and_assoc, sp_item_in]
      refine ⟨tk, ?_⟩
      cases hq : itemIn (Txt.split z ",")[i] with
      | none =>
        simp only [optI, wVar, wOwn, wC, wOp, wT, wChain, wAndT, wOrT, wNotT, wAnd, wOr, wNot, wIf, wNil, wCons, wDisp, wCall, wCall0, wNoPart, wPart, wSl, wRevL, wBlt, wItL, wItT, wItS, wRg1, wRg2, wEnum, wZip, wLR, wLR2, wYes, wM1, wFmt, wJoined, wIsi, wNeg, wNewD, wOwnCat, wPar2, wNext, wSeq, wNever, wSet, wNew, wAug, wExtend, wAppend, wPut, wFrz, wRet, wRetOwn, wRetN, wDrop, wIfS, wgName, wgTup, wUnp, wRaise, bodyEN, wLc, wFor, wSortSet, e_add_i, e_add_s, e_add_l, e_add_t, e_kadd_i, e_kadd_s, e_kadd_l, e_kadd_t, e_sub, e_kt, e_mul_i, e_mul_l, e_kmul_i, e_kmul_l, e_div, e_kdiv, e_mod, e_kmod, e_cmp, e_eq, e_ne, e_keq, e_is_n, e_is_b, e_isn_n, e_isn_b, e_non_n, e_non_l, e_non_t, e_non_i, e_non_s, e_non_b, e_non_x, e_in_l, e_in_t, e_ni_l, e_ni_t, e_kin_l, e_kin_t, e_kin_s, e_ix_l, e_ix_t, e_ix_s, e_kix_l, e_kix_t, e_kix_s, e_sl_l, e_sl_t, e_sl_s, e_len_l, e_len_t, e_len_s, e_klen_l, e_klen_t, e_klen_s, e_kany, e_list_l, e_list_t, e_tup_l, e_tup_t, e_sum, e_max, e_max2, e_min, e_kne, e_kne2, e_all, e_str, e_kstr, e_int, e_kint, e_split, e_ksplit, e_part, e_kpart, e_join, e_kjoin, e_pys0, e_pys1, e_sa0, e_sa1, e_wipe0, e_wipe1, e_js0, e_js1, e_ty_i, e_ty_b, e_ty_n, e_ty_s, e_ty_l, e_ty_t, e_isi_ii, e_isi_ib, e_isi_in, e_isi_is, e_isi_il, e_isi_it, e_isi_bi, e_isi_bb, e_isi_bn, e_isi_bs, e_isi_bl, e_isi_bt, e_isi_li, e_isi_lb, e_isi_ln, e_isi_ls, e_isi_ll, e_isi_lt, e_isi_ti, e_isi_tb, e_isi_tn, e_isi_ts, e_isi_tl, e_isi_tt, e_isi_si, e_isi_sb, e_isi_sn, e_isi_ss, e_isi_sl, e_isi_st, e_up, e_st0, e_st1, e_st2, exists_eq_left, exists_eq_left', exists_eq_right, exists_eq_right', exists_eq', exists_eq, true_and, and_true, and_self, false_and, and_false, exists_and_left, exists_and_right, exists_const, Option.some.injEq, Option.map_some, Option.map_none, Sl.is.injEq, Sl.own.injEq, D.py.injEq, D.ex.injEq, D.rf.injEq, PyData.int.injEq, PyData.bool.injEq, PyData.str.injEq, PyData.list.injEq, PyData.tuple.injEq, List.cons.injEq, if_true, if_false, eq_self, Bool.false_eq_true, Bool.true_eq_false, Bool.not_true, Bool.not_false, Bool.not_not, List.getElem?_cons_zero, List.getElem?_cons_succ, List.set_cons_zero, List.set_cons_succ, List.length_cons, List.length_nil, List.cons_append, List.nil_append, reduceCtorEq, List.replicate_zero, List.replicate_succ, Nat.reduceAdd, Nat.reduceSub, decide_true, decide_false, intsOf_map', blsOf_map', strsOf_map', map_int_inj, map_str_inj, map_bool_inj, map_itD_inj, itD_iff, sh_int, sh_bool, sh_none, sh_itD, sh_nil, sh_ints, sh_its, eqv_int, eqv_bool, eqv_str, eqv_itD, eqv_ints, eqv_strs, eqv_its, eqv_nil, Nat.zero_le, and_assoc]
        have ef : faultIx (Txt.split z ",") = .int (i : Nat) := by
          unfold faultIx
          have : (Txt.split z ",").findIdx? (fun p => (itemIn p).isNone) = some i := by
            rw [List.findIdx?_eq_some_iff_getElem]
            refine ⟨lt, by rw [hq]; rfl, fun j hj => ?_⟩
            have := hp j hj _ (List.getElem?_eq_getElem (by omega))
            rw [this]
            simp
          rw [this]
        rw [ef] at n
        exact n
      | some q =>
        simp only [optI, wVar, wOwn, wC, wOp, wT, wChain, wAndT, wOrT, wNotT, wAnd, wOr, wNot, wIf, wNil, wCons, wDisp, wCall, wCall0, wNoPart, wPart, wSl, wRevL, wBlt, wItL, wItT, wItS, wRg1, wRg2, wEnum, wZip, wLR, wLR2, wYes, wM1, wFmt, wJoined, wIsi, wNeg, wNewD, wOwnCat, wPar2, wNext, wSeq, wNever, wSet, wNew, wAug, wExtend, wAppend, wPut, wFrz, wRet, wRetOwn, wRetN, wDrop, wIfS, wgName, wgTup, wUnp, wRaise, bodyEN, wLc, wFor, wSortSet, e_add_i, e_add_s, e_add_l, e_add_t, e_kadd_i, e_kadd_s, e_kadd_l, e_kadd_t, e_sub, e_kt, e_mul_i, e_mul_l, e_kmul_i, e_kmul_l, e_div, e_kdiv, e_mod, e_kmod, e_cmp, e_eq, e_ne, e_keq, e_is_n, e_is_b, e_isn_n, e_isn_b, e_non_n, e_non_l, e_non_t, e_non_i, e_non_s, e_non_b, e_non_x, e_in_l, e_in_t, e_ni_l, e_ni_t, e_kin_l, e_kin_t, e_kin_s, e_ix_l, e_ix_t, e_ix_s, e_kix_l, e_kix_t, e_kix_s, e_sl_l, e_sl_t, e_sl_s, e_len_l, e_len_t, e_len_s, e_klen_l, e_klen_t, e_klen_s, e_kany, e_list_l, e_list_t, e_tup_l, e_tup_t, e_sum, e_max, e_max2, e_min, e_kne, e_kne2, e_all, e_str, e_kstr, e_int, e_kint, e_split, e_ksplit, e_part, e_kpart, e_join, e_kjoin, e_pys0, e_pys1, e_sa0, e_sa1, e_wipe0, e_wipe1, e_js0, e_js1, e_ty_i, e_ty_b, e_ty_n, e_ty_s, e_ty_l, e_ty_t, e_isi_ii, e_isi_ib, e_isi_in, e_isi_is, e_isi_il, e_isi_it, e_isi_bi, e_isi_bb, e_isi_bn, e_isi_bs, e_isi_bl, e_isi_bt, e_isi_li, e_isi_lb, e_isi_ln, e_isi_ls, e_isi_ll, e_isi_lt, e_isi_ti, e_isi_tb, e_isi_tn, e_isi_ts, e_isi_tl, e_isi_tt, e_isi_si, e_isi_sb, e_isi_sn, e_isi_ss, e_isi_sl, e_isi_st, e_up, e_st0, e_st1, e_st2, exists_eq_left, exists_eq_left', exists_eq_right, exists_eq_right', exists_eq', exists_eq, true_and, and_true, and_self, false_and, and_false, exists_and_left, exists_and_right, exists_const, Option.some.injEq, Option.map_some, Option.map_none, Sl.is.injEq, Sl.own.injEq, D.py.injEq, D.ex.injEq, D.rf.injEq, PyData.int.injEq, PyData.bool.injEq, PyData.str.injEq, PyData.list.injEq, PyData.tuple.injEq, List.cons.injEq, if_true, if_false, eq_self, Bool.false_eq_true, Bool.true_eq_false, Bool.not_true, Bool.not_false, Bool.not_not, List.getElem?_cons_zero, List.getElem?_cons_succ, List.set_cons_zero, List.set_cons_succ, List.length_cons, List.length_nil, List.cons_append, List.nil_append, reduceCtorEq, List.replicate_zero, List.replicate_succ, Nat.reduceAdd, Nat.reduceSub, decide_true, decide_false, intsOf_map', blsOf_map', strsOf_map', map_int_inj, map_str_inj, map_bool_inj, map_itD_inj, itD_iff, sh_int, sh_bool, sh_none, sh_itD, sh_nil, sh_ints, sh_its, eqv_int, eqv_bool, eqv_str, eqv_itD, eqv_ints, eqv_strs, eqv_its, eqv_nil, Nat.zero_le, and_assoc]
        refine hR _ _ ⟨i + 1, _, _, e2, lt, fun j hj p' hp' => ?_, rfl⟩
        rcases Nat.lt_succ_iff_lt_or_eq.mp hj with h | h
        · exact hp j h p' hp'
        · subst h
          rw [List.getElem?_eq_getElem lt] at hp'
          cases hp'
          rw [hq]
          rfl
    · obtain ⟨i, s1, s2, e, hi, hp, rfl⟩ := h
      have : i = (Txt.split z ",").length := by
        have := congrArg List.length e
        simp at this
        omega
      subst this
      simp only [wVar, wOwn, wC, wOp, wT, wChain, wAndT, wOrT, wNotT, wAnd, wOr, wNot, wIf, wNil, wCons, wDisp, wCall, wCall0, wNoPart, wPart, wSl, wRevL, wBlt, wItL, wItT, wItS, wRg1, wRg2, wEnum, wZip, wLR, wLR2, wYes, wM1, wFmt, wJoined, wIsi, wNeg, wNewD, wOwnCat, wPar2, wNext, wSeq, wNever, wSet, wNew, wAug, wExtend, wAppend, wPut, wFrz, wRet, wRetOwn, wRetN, wDrop, wIfS, wgName, wgTup, wUnp, wRaise, bodyEN, wLc, wFor, wSortSet, e_add_i, e_add_s, e_add_l, e_add_t, e_kadd_i, e_kadd_s, e_kadd_l, e_kadd_t, e_sub, e_kt, e_mul_i, e_mul_l, e_kmul_i, e_kmul_l, e_div, e_kdiv, e_mod, e_kmod, e_cmp, e_eq, e_ne, e_keq, e_is_n, e_is_b, e_isn_n, e_isn_b, e_non_n, e_non_l, e_non_t, e_non_i, e_non_s, e_non_b, e_non_x, e_in_l, e_in_t, e_ni_l, e_ni_t, e_kin_l, e_kin_t, e_kin_s, e_ix_l, e_ix_t, e_ix_s, e_kix_l, e_kix_t, e_kix_s, e_sl_l, e_sl_t, e_sl_s, e_len_l, e_len_t, e_len_s, e_klen_l, e_klen_t, e_klen_s, e_kany, e_list_l, e_list_t, e_tup_l, e_tup_t, e_sum, e_max, e_max2, e_min, e_kne, e_kne2, e_all, e_str, e_kstr, e_int, e_kint, e_split, e_ksplit, e_part, e_kpart, e_join, e_kjoin, e_pys0, e_pys1, e_sa0, e_sa1, e_wipe0, e_wipe1, e_js0, e_js1, e_ty_i, e_ty_b, e_ty_n, e_ty_s, e_ty_l, e_ty_t, e_isi_ii, e_isi_ib, e_isi_in, e_isi_is, e_isi_il, e_isi_it, e_isi_bi, e_isi_bb, e_isi_bn, e_isi_bs, e_isi_bl, e_isi_bt, e_isi_li, e_isi_lb, e_isi_ln, e_isi_ls, e_isi_ll, e_isi_lt, e_isi_ti, e_isi_tb, e_isi_tn, e_isi_ts, e_isi_tl, e_isi_tt, e_isi_si, e_isi_sb, e_isi_sn, e_isi_ss, e_isi_sl, e_isi_st, e_up, e_st0, e_st1, e_st2, exists_eq_left, exists_eq_left', exists_eq_right, exists_eq_right', exists_eq', exists_eq, true_and, and_true, and_self, false_and, and_false, exists_and_left, exists_and_right, exists_const, Option.some.injEq, Option.map_some, Option.map_none, Sl.is.injEq, Sl.own.injEq, D.py.injEq, D.ex.injEq, D.rf.injEq, PyData.int.injEq, PyData.bool.injEq, PyData.str.injEq, PyData.list.injEq, PyData.tuple.injEq, List.cons.injEq, if_true, if_false, eq_self, Bool.false_eq_true, Bool.true_eq_false, Bool.not_true, Bool.not_false, Bool.not_not, List.getElem?_cons_zero, List.getElem?_cons_succ, List.set_cons_zero, List.set_cons_succ, List.length_cons, List.length_nil, List.cons_append, List.nil_append, reduceCtorEq, List.replicate_zero, List.replicate_succ, Nat.reduceAdd, Nat.reduceSub, decide_true, decide_false, intsOf_map', blsOf_map', strsOf_map', map_int_inj, map_str_inj, map_bool_inj, map_itD_inj, itD_iff, sh_int, sh_bool, sh_none, sh_itD, sh_nil, sh_ints, sh_its, eqv_int, eqv_bool, eqv_str, eqv_itD, eqv_ints, eqv_strs, eqv_its, eqv_nil, Nat.zero_le, and_assoc]
      have ef : faultIx (Txt.split z ",") = .none := by
        unfold faultIx
        have : (Txt.split z ",").findIdx? (fun p => (itemIn p).isNone) = none := by
          rw [List.findIdx?_eq_none_iff]
          intro x hx
          obtain ⟨j, hj, rfl⟩ := List.mem_iff_getElem.mp hx
          exact hp j hj _ (List.getElem?_eq_getElem hj)
        rw [this]
      rw [ef] at n
      exact n
  | _ =>
    simp only [w_first_fault, wVar, wOwn, wC, wOp, wT, wChain, wAndT, wOrT, wNotT, wAnd, wOr, wNot, wIf, wNil, wCons, wDisp, wCall, wCall0, wNoPart, wPart, wSl, wRevL, wBlt, wItL, wItT, wItS, wRg1, wRg2, wEnum, wZip, wLR, wLR2, wYes, wM1, wFmt, wJoined, wIsi, wNeg, wNewD, wOwnCat, wPar2, wNext, wSeq, wNever, wSet, wNew, wAug, wExtend, wAppend, wPut, wFrz, wRet, wRetOwn, wRetN, wDrop, wIfS, wgName, wgTup, wUnp, wRaise, bodyEN, wLc, wFor, wSortSet, e_add_i, e_add_s, e_add_l, e_add_t, e_kadd_i, e_kadd_s, e_kadd_l, e_kadd_t, e_sub, e_kt, e_mul_i, e_mul_l, e_kmul_i, e_kmul_l, e_div, e_kdiv, e_mod, e_kmod, e_cmp, e_eq, e_ne, e_keq, e_is_n, e_is_b, e_isn_n, e_isn_b, e_non_n, e_non_l, e_non_t, e_non_i, e_non_s, e_non_b, e_non_x, e_in_l, e_in_t, e_ni_l, e_ni_t, e_kin_l, e_kin_t, e_kin_s, e_ix_l, e_ix_t, e_ix_s, e_kix_l, e_kix_t, e_kix_s, e_sl_l, e_sl_t, e_sl_s, e_len_l, e_len_t, e_len_s, e_klen_l, e_klen_t, e_klen_s, e_kany, e_list_l, e_list_t, e_tup_l, e_tup_t, e_sum, e_max, e_max2, e_min, e_kne, e_kne2, e_all, e_str, e_kstr, e_int, e_kint, e_split, e_ksplit, e_part, e_kpart, e_join, e_kjoin, e_pys0, e_pys1, e_sa0, e_sa1, e_wipe0, e_wipe1, e_js0, e_js1, e_ty_i, e_ty_b, e_ty_n, e_ty_s, e_ty_l, e_ty_t, e_isi_ii, e_isi_ib, e_isi_in, e_isi_is, e_isi_il, e_isi_it, e_isi_bi, e_isi_bb, e_isi_bn, e_isi_bs, e_isi_bl, e_isi_bt, e_isi_li, e_isi_lb, e_isi_ln, e_isi_ls, e_isi_ll, e_isi_lt, e_isi_ti, e_isi_tb, e_isi_tn, e_isi_ts, e_isi_tl, e_isi_tt, e_isi_si, e_isi_sb, e_isi_sn, e_isi_ss, e_isi_sl, e_isi_st, e_up, e_st0, e_st1, e_st2, exists_eq_left, exists_eq_left', exists_eq_right, exists_eq_right', exists_eq', exists_eq, true_and, and_true, and_self, false_and, and_false, exists_and_left, exists_and_right, exists_const, Option.some.injEq, Option.map_some, Option.map_none, Sl.is.injEq, Sl.own.injEq, D.py.injEq, D.ex.injEq, D.rf.injEq, PyData.int.injEq, PyData.bool.injEq, PyData.str.injEq, PyData.list.injEq, PyData.tuple.injEq, List.cons.injEq, if_true, if_false, eq_self, Bool.false_eq_true, Bool.true_eq_false, Bool.not_true, Bool.not_false, Bool.not_not, List.getElem?_cons_zero, List.getElem?_cons_succ, List.set_cons_zero, List.set_cons_succ, List.length_cons, List.length_nil, List.cons_append, List.nil_append, reduceCtorEq, List.replicate_zero, List.replicate_succ, Nat.reduceAdd, Nat.reduceSub, decide_true, decide_false, intsOf_map', blsOf_map', strsOf_map', map_int_inj, map_str_inj, map_bool_inj, map_itD_inj, itD_iff, sh_int, sh_bool, sh_none, sh_itD, sh_nil, sh_ints, sh_its, eqv_int, eqv_bool, eqv_str, eqv_itD, eqv_ints, eqv_strs, eqv_its, eqv_nil, Nat.zero_le, and_assoc]
    exact n
def timesOf (its : List Itm) : List PyData := (setOf its).map fun k => .tuple [.int k, .int ((its.filter fun q => decide (k ∈ numbersOf q)).length : Nat)]
def sp_covered_times : Spec0 := fun ds N Nx => ∃ d, ds = [.py d] ∧ TFine d ∧ (match itemsD d with | some its => its.length ≤ 400 ∧ N (.py (.list (timesOf its))) | none => Nx .text)
def w_covered_times : WS Unit :=
  wSeq (wDrop (wCall0 sp_check_text (wCons (wVar 0) (wNil)))) (wSeq (wSet 1 (wCall0 sp_items_in (wCons (wVar 0) (wNil)))) (wRet (wLc (wItL (wCall0 sp_set_of (wCons (wVar 1) (wNil)))) (wgName 2) (wYes) (wDisp .tuple (wCons (wVar 2) (wCons (wBlt fLen kLen (wCons (wLc (wItL (wVar 1)) (wgName 3) (wT (wOp fIn kIn (wVar 2) (wCall0 sp_numbers_of (wCons (wVar 3) (wNil))))) (wVar 3) [3]) (wNil))) (wNil)))) [2])))
theorem law_covered_times : ∀ ds θ N Nx, sp_covered_times.up ds θ N Nx → w_covered_times (bodyEN N Nx) (startD 4 ds) θ := by
  rintro ds θ N Nx ⟨d, rfl, fn, n⟩
  simp only [w_covered_times, sp_check_text, sp_items_in, wVar, wOwn, wC, wOp, wT, wChain, wAndT, wOrT, wNotT, wAnd, wOr, wNot, wIf, wNil, wCons, wDisp, wCall, wCall0, wNoPart, wPart, wSl, wRevL, wBlt, wItL, wItT, wItS, wRg1, wRg2, wEnum, wZip, wLR, wLR2, wYes, wM1, wFmt, wJoined, wIsi, wNeg, wNewD, wOwnCat, wPar2, wNext, wSeq, wNever, wSet, wNew, wAug, wExtend, wAppend, wPut, wFrz, wRet, wRetOwn, wRetN, wDrop, wIfS, wgName, wgTup, wUnp, wRaise, bodyEN, wLc, wFor, wSortSet, e_add_i, e_add_s, e_add_l, e_add_t, e_kadd_i, e_kadd_s, e_kadd_l, e_kadd_t, e_sub, e_kt, e_mul_i, e_mul_l, e_kmul_i, e_kmul_l, e_div, e_kdiv, e_mod, e_kmod, e_cmp, e_eq, e_ne, e_keq, e_is_n, e_is_b, e_isn_n, e_isn_b, e_non_n, e_non_l, e_non_t, e_non_i, e_non_s, e_non_b, e_non_x, e_in_l, e_in_t, e_ni_l, e_ni_t, e_kin_l, e_kin_t, e_kin_s, e_ix_l, e_ix_t, e_ix_s, e_kix_l, e_kix_t, e_kix_s, e_sl_l, e_sl_t, e_sl_s, e_len_l, e_len_t, e_len_s, e_klen_l, e_klen_t, e_klen_s, e_kany, e_list_l, e_list_t, e_tup_l, e_tup_t, e_sum, e_max, e_max2, e_min, e_kne, e_kne2, e_all, e_str, e_kstr, e_int, e_kint, e_split, e_ksplit, e_part, e_kpart, e_join, e_kjoin, e_pys0, e_pys1, e_sa0, e_sa1, e_wipe0, e_wipe1, e_js0, e_js1, e_ty_i, e_ty_b, e_ty_n, e_ty_s, e_ty_l, e_ty_t, e_isi_ii, e_isi_ib, e_isi_in, e_isi_is, e_isi_il, e_isi_it, e_isi_bi, e_isi_bb, e_isi_bn, e_isi_bs, e_isi_bl, e_isi_bt, e_isi_li, e_isi_lb, e_isi_ln, e_isi_ls, e_isi_ll, e_isi_lt, e_isi_ti, e_isi_tb, e_isi_tn, e_isi_ts, e_isi_tl, e_isi_tt, e_isi_si, e_isi_sb, e_isi_sn, e_isi_ss, e_isi_sl, e_isi_st, e_up, e_st0, e_st1, e_st2, exists_eq_left, exists_eq_left', exists_eq_right, exists_eq_right', exists_eq', exists_eq, true_and, and_true, and_self, false_and, and_false, exists_and_left, exists_and_right, exists_const, Option.some.injEq, Option.map_some, Option.map_none, Sl.is.injEq, Sl.own.injEq, D.py.injEq, D.ex.injEq, D.rf.injEq, PyData.int.injEq, PyData.bool.injEq, PyData.str.injEq, PyData.list.injEq, PyData.tuple.injEq, List.cons.injEq, if_true, if_false, eq_self, Bool.false_eq_true, Bool.true_eq_false, Bool.not_true, Bool.not_false, Bool.not_not, List.getElem?_cons_zero, List.getElem?_cons_succ, List.set_cons_zero, List.set_cons_succ, List.length_cons, List.length_nil, List.cons_append, List.nil_append, reduceCtorEq, List.replicate_zero, List.replicate_succ, Nat.reduceAdd, Nat.reduceSub, decide_true, decide_false, intsOf_map', blsOf_map', strsOf_map', map_int_inj, map_str_inj, map_bool_inj, map_itD_inj, itD_iff, sh_int, sh_bool, sh_none, sh_itD, sh_nil, sh_ints, sh_its, eqv_int, eqv_bool, eqv_str, eqv_itD, eqv_ints, eqv_strs, eqv_its, eqv_nil, Nat.zero_le, and_assoc]
  refine ⟨fn, ?_⟩
  cases h : itemsD d with
  | none => simp only [h, wVar, wOwn, wC, wOp, wT, wChain, wAndT, wOrT, wNotT, wAnd, wOr, wNot, wIf, wNil, wCons, wDisp, wCall, wCall0, wNoPart, wPart, wSl, wRevL, wBlt, wItL, wItT, wItS, wRg1, wRg2, wEnum, wZip, wLR, wLR2, wYes, wM1, wFmt, wJoined, wIsi, wNeg, wNewD, wOwnCat, wPar2, wNext, wSeq, wNever, wSet, wNew, wAug, wExtend, wAppend, wPut, wFrz, wRet, wRetOwn, wRetN, wDrop, wIfS, wgName, wgTup, wUnp, wRaise, bodyEN, wLc, wFor, wSortSet, e_add_i, e_add_s, e_add_l, e_add_t, e_kadd_i, e_kadd_s, e_kadd_l, e_kadd_t, e_sub, e_kt, e_mul_i, e_mul_l, e_kmul_i, e_kmul_l, e_div, e_kdiv, e_mod, e_kmod, e_cmp, e_eq, e_ne, e_keq, e_is_n, e_is_b, e_isn_n, e_isn_b, e_non_n, e_non_l, e_non_t, e_non_i, e_non_s, e_non_b, e_non_x, e_in_l, e_in_t, e_ni_l, e_ni_t, e_kin_l, e_kin_t, e_kin_s, e_ix_l, e_ix_t, e_ix_s, e_kix_l, e_kix_t, e_kix_s, e_sl_l, e_sl_t, e_sl_s, e_len_l, e_len_t, e_len_s, e_klen_l, e_klen_t, e_klen_s, e_kany, e_list_l, e_list_t, e_tup_l, e_tup_t, e_sum, e_max, e_max2, e_min, e_kne, e_kne2, e_all, e_str, e_kstr, e_int, e_kint, e_split, e_ksplit, e_part, e_kpart, e_join, e_kjoin, e_pys0, e_pys1, e_sa0, e_sa1, e_wipe0, e_wipe1, e_js0, e_js1, e_ty_i, e_ty_b, e_ty_n, e_ty_s, e_ty_l, e_ty_t, e_isi_ii, e_isi_ib, e_isi_in, e_isi_is, e_isi_il, e_isi_it, e_isi_bi, e_isi_bb, e_isi_bn, e_isi_bs, e_isi_bl, e_isi_bt, e_isi_li, e_isi_lb, e_isi_ln, e_isi_ls, e_isi_ll, e_isi_lt, e_isi_ti, e_isi_tb, e_isi_tn, e_isi_ts, e_isi_tl, e_isi_tt, e_isi_si, e_isi_sb, e_isi_sn, e_isi_ss, e_isi_sl, e_isi_st, e_up, e_st0, e_st1, e_st2, exists_eq_left, exists_eq_left', exists_eq_right, exists_eq_right', exists_eq', exists_eq, true_and, and_true, and_self, false_and, and_false, exists_and_left, exists_and_right, exists_const, Option.some.injEq, Option.map_some, Option.map_none, Sl.is.injEq, Sl.own.injEq, D.py.injEq, D.ex.injEq, D.rf.injEq, PyData.int.injEq, PyData.bool.injEq, PyData.str.injEq, PyData.list.injEq, PyData.tuple.injEq, List.cons.injEq, if_true, if_false, eq_self, Bool.false_eq_true, Bool.true_eq_false, Bool.not_true, Bool.not_false, Bool.not_not, List.getElem?_cons_zero, List.getElem?_cons_succ, List.set_cons_zero, List.set_cons_succ, List.length_cons, List.length_nil, List.cons_append, List.nil_append, reduceCtorEq, List.replicate_zero, List.replicate_succ, Nat.reduceAdd, Nat.reduceSub, decide_true, decide_false, intsOf_map', blsOf_map', strsOf_map', map_int_inj, map_str_inj, map_bool_inj, map_itD_inj, itD_iff, sh_int, sh_bool, sh_none, sh_itD, sh_nil, sh_ints, sh_its, eqv_int, eqv_bool, eqv_str, eqv_itD, eqv_ints, eqv_strs, eqv_its, eqv_nil, Nat.zero_le, and_assoc] at n ⊢; exact n
  | some its =>
    simp only [h, wVar, wOwn, wC, wOp, wT, wChain, wAndT, wOrT, wNotT, wAnd, wOr, wNot, wIf, wNil, wCons, wDisp, wCall, wCall0, wNoPart, wPart, wSl, wRevL, wBlt, wItL, wItT, wItS, wRg1, wRg2, wEnum, wZip, wLR, wLR2, wYes, wM1, wFmt, wJoined, wIsi, wNeg, wNewD, wOwnCat, wPar2, wNext, wSeq, wNever, wSet, wNew, wAug, wExtend, wAppend, wPut, wFrz, wRet, wRetOwn, wRetN, wDrop, wIfS, wgName, wgTup, wUnp, wRaise, bodyEN, wLc, wFor, wSortSet, e_add_i, e_add_s, e_add_l, e_add_t, e_kadd_i, e_kadd_s, e_kadd_l, e_kadd_t, e_sub, e_kt, e_mul_i, e_mul_l, e_kmul_i, e_kmul_l, e_div, e_kdiv, e_mod, e_kmod, e_cmp, e_eq, e_ne, e_keq, e_is_n, e_is_b, e_isn_n, e_isn_b, e_non_n, e_non_l, e_non_t, e_non_i, e_non_s, e_non_b, e_non_x, e_in_l, e_in_t, e_ni_l, e_ni_t, e_kin_l, e_kin_t, e_kin_s, e_ix_l, e_ix_t, e_ix_s, e_kix_l, e_kix_t, e_kix_s, e_sl_l, e_sl_t, e_sl_s, e_len_l, e_len_t, e_len_s, e_klen_l, e_klen_t, e_klen_s, e_kany, e_list_l, e_list_t, e_tup_l, e_tup_t, e_sum, e_max, e_max2, e_min, e_kne, e_kne2, e_all, e_str, e_kstr, e_int, e_kint, e_split, e_ksplit, e_part, e_kpart, e_join, e_kjoin, e_pys0, e_pys1, e_sa0, e_sa1, e_wipe0, e_wipe1, e_js0, e_js1, e_ty_i, e_ty_b, e_ty_n, e_ty_s, e_ty_l, e_ty_t, e_isi_ii, e_isi_ib, e_isi_in, e_isi_is, e_isi_il, e_isi_it, e_isi_bi, e_isi_bb, e_isi_bn, e_isi_bs, e_isi_bl, e_isi_bt, e_isi_li, e_isi_lb, e_isi_ln, e_isi_ls, e_isi_ll, e_isi_lt, e_isi_ti, e_isi_tb, e_isi_tn, e_isi_ts, e_isi_tl, e_isi_tt, e_isi_si, e_isi_sb, e_isi_sn, e_isi_ss, e_isi_sl, e_isi_st, e_up, e_st0, e_st1, e_st2, exists_eq_left, exists_eq_left', exists_eq_right, exists_eq_right', exists_eq', exists_eq, true_and, and_true, and_self, false_and, and_false, exists_and_left, exists_and_right, exists_const, Option.some.injEq, Option.map_some, Option.map_none, Sl.is.injEq, Sl.own.injEq, D.py.injEq, D.ex.injEq, D.rf.injEq, PyData.int.injEq, PyData.bool.injEq, PyData.str.injEq, PyData.list.injEq, PyData.tuple.injEq, List.cons.injEq, if_true, if_false, eq_self, Bool.false_eq_true, Bool.true_eq_false, Bool.not_true, Bool.not_false, Bool.not_not, List.getElem?_cons_zero, List.getElem?_cons_succ, List.set_cons_zero, List.set_cons_succ, List.length_cons, List.length_nil, List.cons_append, List.nil_append, reduceCtorEq, List.replicate_zero, List.replicate_succ, Nat.reduceAdd, Nat.reduceSub, decide_true, decide_false, intsOf_map', blsOf_map', strsOf_map', map_int_inj, map_str_inj, map_bool_inj, map_itD_inj, itD_iff, sh_int, sh_bool, sh_none, sh_itD, sh_nil, sh_ints, sh_its, eqv_int, eqv_bool, eqv_str, eqv_itD, eqv_ints, eqv_strs, eqv_its, eqv_nil, Nat.zero_le, and_assoc, optL_some, sp_set_of] at n ⊢
    refine ⟨fn, items_ok h, n.1, ?_⟩
    refine lcGo_map2 PyData.int (fun k => .tuple [.int k, .int ((its.filter fun q => decide (k ∈ numbersOf q)).length : Nat)]) _ (fun k hk T t => ?_) (le_line (by have := subs_len (setOf_subs its); omega)) n.2
    simp only [wVar, wOwn, wC, wOp, wT, wChain, wAndT, wOrT, wNotT, wAnd, wOr, wNot, wIf, wNil, wCons, wDisp, wCall, wCall0, wNoPart, wPart, wSl, wRevL, wBlt, wItL, wItT, wItS, wRg1, wRg2, wEnum, wZip, wLR, wLR2, wYes, wM1, wFmt, wJoined, wIsi, wNeg, wNewD, wOwnCat, wPar2, wNext, wSeq, wNever, wSet, wNew, wAug, wExtend, wAppend, wPut, wFrz, wRet, wRetOwn, wRetN, wDrop, wIfS, wgName, wgTup, wUnp, wRaise, bodyEN, wLc, wFor, wSortSet, e_add_i, e_add_s, e_add_l, e_add_t, e_kadd_i, e_kadd_s, e_kadd_l, e_kadd_t, e_sub, e_kt, e_mul_i, e_mul_l, e_kmul_i, e_kmul_l, e_div, e_kdiv, e_mod, e_kmod, e_cmp, e_eq, e_ne, e_keq, e_is_n, e_is_b, e_isn_n, e_isn_b, e_non_n, e_non_l, e_non_t, e_non_i, e_non_s, e_non_b, e_non_x, e_in_l, e_in_t, e_ni_l, e_ni_t, e_kin_l, e_kin_t, e_kin_s, e_ix_l, e_ix_t, e_ix_s, e_kix_l, e_kix_t, e_kix_s, e_sl_l, e_sl_t, e_sl_s, e_len_l, e_len_t, e_len_s, e_klen_l, e_klen_t, e_klen_s, e_kany, e_list_l, e_list_t, e_tup_l, e_tup_t, e_sum, e_max, e_max2, e_min, e_kne, e_kne2, e_all, e_str, e_kstr, e_int, e_kint, e_split, e_ksplit, e_part, e_kpart, e_join, e_kjoin, e_pys0, e_pys1, e_sa0, e_sa1, e_wipe0, e_wipe1, e_js0, e_js1, e_ty_i, e_ty_b, e_ty_n, e_ty_s, e_ty_l, e_ty_t, e_isi_ii, e_isi_ib, e_isi_in, e_isi_is, e_isi_il, e_isi_it, e_isi_bi, e_isi_bb, e_isi_bn, e_isi_bs, e_isi_bl, e_isi_bt, e_isi_li, e_isi_lb, e_isi_ln, e_isi_ls, e_isi_ll, e_isi_lt, e_isi_ti, e_isi_tb, e_isi_tn, e_isi_ts, e_isi_tl, e_isi_tt, e_isi_si, e_isi_sb, e_isi_sn, e_isi_ss, e_isi_sl, e_isi_st, e_up, e_st0, e_st1, e_st2, exists_eq_left, exists_eq_left', exists_eq_right, exists_eq_right', exists_eq', exists_eq, true_and, and_true, and_self, false_and, and_false, exists_and_left, exists_and_right, exists_const, Option.some.injEq, Option.map_some, Option.map_none, Sl.is.injEq, Sl.own.injEq, D.py.injEq, D.ex.injEq, D.rf.injEq, PyData.int.injEq, PyData.bool.injEq, PyData.str.injEq, PyData.list.injEq, PyData.tuple.injEq, List.cons.injEq, if_true, if_false, eq_self, Bool.false_eq_true, Bool.true_eq_false, Bool.not_true, Bool.not_false, Bool.not_not, List.getElem?_cons_zero, List.getElem?_cons_succ, List.set_cons_zero, List.set_cons_succ, List.length_cons, List.length_nil, List.cons_append, List.nil_append, reduceCtorEq, List.replicate_zero, List.replicate_succ, Nat.reduceAdd, Nat.reduceSub, decide_true, decide_false, intsOf_map', blsOf_map', strsOf_map', map_int_inj, map_str_inj, map_bool_inj, map_itD_inj, itD_iff, sh_int, sh_bool, sh_none, sh_itD, sh_nil, sh_ints, sh_its, eqv_int, eqv_bool, eqv_str, eqv_itD, eqv_ints, eqv_strs, eqv_its, eqv_nil, Nat.zero_le, and_assoc]
    refine lcGo_fm2 itD (fun q => decide (k ∈ numbersOf q)) itD _ (fun q hq T' F t' => ?_) (le_line (by omega)) ?_
    · simp only [wVar, wOwn, wC, wOp, wT, wChain, wAndT, wOrT, wNotT, wAnd, wOr, wNot, wIf, wNil, wCons, wDisp, wCall, wCall0, wNoPart, wPart, wSl, wRevL, wBlt, wItL, wItT, wItS, wRg1, wRg2, wEnum, wZip, wLR, wLR2, wYes, wM1, wFmt, wJoined, wIsi, wNeg, wNewD, wOwnCat, wPar2, wNext, wSeq, wNever, wSet, wNew, wAug, wExtend, wAppend, wPut, wFrz, wRet, wRetOwn, wRetN, wDrop, wIfS, wgName, wgTup, wUnp, wRaise, bodyEN, wLc, wFor, wSortSet, e_add_i, e_add_s, e_add_l, e_add_t, e_kadd_i, e_kadd_s, e_kadd_l, e_kadd_t, e_sub, e_kt, e_mul_i, e_mul_l, e_kmul_i, e_kmul_l, e_div, e_kdiv, e_mod, e_kmod, e_cmp, e_eq, e_ne, e_keq, e_is_n, e_is_b, e_isn_n, e_isn_b, e_non_n, e_non_l, e_non_t, e_non_i, e_non_s, e_non_b, e_non_x, e_in_l, e_in_t, e_ni_l, e_ni_t, e_kin_l, e_kin_t, e_kin_s, e_ix_l, e_ix_t, e_ix_s, e_kix_l, e_kix_t, e_kix_s, e_sl_l, e_sl_t, e_sl_s, e_len_l, e_len_t, e_len_s, e_klen_l, e_klen_t, e_klen_s, e_kany, e_list_l, e_list_t, e_tup_l, e_tup_t, e_sum, e_max, e_max2, e_min, e_kne, e_kne2, e_all, e_str, e_kstr, e_int, e_kint, e_split, e_ksplit, e_part, e_kpart, e_join, e_kjoin, e_pys0, e_pys1, e_sa0, e_sa1, e_wipe0, e_wipe1, e_js0, e_js1, e_ty_i, e_ty_b, e_ty_n, e_ty_s, e_ty_l, e_ty_t, e_isi_ii, e_isi_ib, e_isi_in, e_isi_is, e_isi_il, e_isi_it, e_isi_bi, e_isi_bb, e_isi_bn, e_isi_bs, e_isi_bl, e_isi_bt, e_isi_li, e_isi_lb, e_isi_ln, e_isi_ls, e_isi_ll, e_isi_lt, e_isi_ti, e_isi_tb, e_isi_tn, e_isi_ts, e_isi_tl, e_isi_tt, e_isi_si, e_isi_sb, e_isi_sn, e_isi_ss, e_isi_sl, e_isi_st, e_up, e_st0, e_st1, e_st2, exists_eq_left, exists_eq_left', exists_eq_right, exists_eq_right', exists_eq', exists_eq, true_and, and_true, and_self, false_and, and_false, exists_and_left, exists_and_right, exists_const, Option.some.injEq, Option.map_some, Option.map_none, Sl.is.injEq, Sl.own.injEq, D.py.injEq, D.ex.injEq, D.rf.injEq, PyData.int.injEq, PyData.bool.injEq, PyData.str.injEq, PyData.list.injEq, PyData.tuple.injEq, List.cons.injEq, if_true, if_false, eq_self, Bool.false_eq_true, Bool.true_eq_false, Bool.not_true, Bool.not_false, Bool.not_not, List.getElem?_cons_zero, List.getElem?_cons_succ, List.set_cons_zero, List.set_cons_succ, List.length_cons, List.length_nil, List.cons_append, List.nil_append, reduceCtorEq, List.replicate_zero, List.replicate_succ, Nat.reduceAdd, Nat.reduceSub, decide_true, decide_false, intsOf_map', blsOf_map', strsOf_map', map_int_inj, map_str_inj, map_bool_inj, map_itD_inj, itD_iff, sh_int, sh_bool, sh_none, sh_itD, sh_nil, sh_ints, sh_its, eqv_int, eqv_bool, eqv_str, eqv_itD, eqv_ints, eqv_strs, eqv_its, eqv_nil, Nat.zero_le, and_assoc, sp_numbers_of, any_ints]
      exact ⟨q, rfl, rfl, rfl, List.all_eq_true.mp (items_ok h) q hq, t'⟩
    · simp only [wVar, wOwn, wC, wOp, wT, wChain, wAndT, wOrT, wNotT, wAnd, wOr, wNot, wIf, wNil, wCons, wDisp, wCall, wCall0, wNoPart, wPart, wSl, wRevL, wBlt, wItL, wItT, wItS, wRg1, wRg2, wEnum, wZip, wLR, wLR2, wYes, wM1, wFmt, wJoined, wIsi, wNeg, wNewD, wOwnCat, wPar2, wNext, wSeq, wNever, wSet, wNew, wAug, wExtend, wAppend, wPut, wFrz, wRet, wRetOwn, wRetN, wDrop, wIfS, wgName, wgTup, wUnp, wRaise, bodyEN, wLc, wFor, wSortSet, e_add_i, e_add_s, e_add_l, e_add_t, e_kadd_i, e_kadd_s, e_kadd_l, e_kadd_t, e_sub, e_kt, e_mul_i, e_mul_l, e_kmul_i, e_kmul_l, e_div, e_kdiv, e_mod, e_kmod, e_cmp, e_eq, e_ne, e_keq, e_is_n, e_is_b, e_isn_n, e_isn_b, e_non_n, e_non_l, e_non_t, e_non_i, e_non_s, e_non_b, e_non_x, e_in_l, e_in_t, e_ni_l, e_ni_t, e_kin_l, e_kin_t, e_kin_s, e_ix_l, e_ix_t, e_ix_s, e_kix_l, e_kix_t, e_kix_s, e_sl_l, e_sl_t, e_sl_s, e_len_l, e_len_t, e_len_s, e_klen_l, e_klen_t, e_klen_s, e_kany, e_list_l, e_list_t, e_tup_l, e_tup_t, e_sum, e_max, e_max2, e_min, e_kne, e_kne2, e_all, e_str, e_kstr, e_int, e_kint, e_split, e_ksplit, e_part, e_kpart, e_join, e_kjoin, e_pys0, e_pys1, e_sa0, e_sa1, e_wipe0, e_wipe1, e_js0, e_js1, e_ty_i, e_ty_b, e_ty_n, e_ty_s, e_ty_l, e_ty_t, e_isi_ii, e_isi_ib, e_isi_in, e_isi_is, e_isi_il, e_isi_it, e_isi_bi, e_isi_bb, e_isi_bn, e_isi_bs, e_isi_bl, e_isi_bt, e_isi_li, e_isi_lb, e_isi_ln, e_isi_ls, e_isi_ll, e_isi_lt, e_isi_ti, e_isi_tb, e_isi_tn, e_isi_ts, e_isi_tl, e_isi_tt, e_isi_si, e_isi_sb, e_isi_sn, e_isi_ss, e_isi_sl, e_isi_st, e_up, e_st0, e_st1, e_st2, exists_eq_left, exists_eq_left', exists_eq_right, exists_eq_right', exists_eq', exists_eq, true_and, and_true, and_self, false_and, and_false, exists_and_left, exists_and_right, exists_const, Option.some.injEq, Option.map_some, Option.map_none, Sl.is.injEq, Sl.own.injEq, D.py.injEq, D.ex.injEq, D.rf.injEq, PyData.int.injEq, PyData.bool.injEq, PyData.str.injEq, PyData.list.injEq, PyData.tuple.injEq, List.cons.injEq, if_true, if_false, eq_self, Bool.false_eq_true, Bool.true_eq_false, Bool.not_true, Bool.not_false, Bool.not_not, List.getElem?_cons_zero, List.getElem?_cons_succ, List.set_cons_zero, List.set_cons_succ, List.length_cons, List.length_nil, List.cons_append, List.nil_append, reduceCtorEq, List.replicate_zero, List.replicate_succ, Nat.reduceAdd, Nat.reduceSub, decide_true, decide_false, intsOf_map', blsOf_map', strsOf_map', map_int_inj, map_str_inj, map_bool_inj, map_itD_inj, itD_iff, sh_int, sh_bool, sh_none, sh_itD, sh_nil, sh_ints, sh_its, eqv_int, eqv_bool, eqv_str, eqv_itD, eqv_ints, eqv_strs, eqv_its, eqv_nil, Nat.zero_le, and_assoc, List.length_map]
      exact ⟨by decide, t⟩
/-! ### the law of k02 -/
def badOf (ps : List Str) : List Int := ((List.range ps.length).filter fun i => match ps[i]? with
  | some p => (itemIn p).isNone
  | none => false).map fun i : Nat => (i : Int)
theorem tok_cut {z : Str} (h : TOk z) (lo hi : Option Int) : TOk (cutS z lo hi) := by
  refine ⟨strOk_iff.mpr fun c hc => ?_, Nat.le_trans (cutS_length z lo hi) h.2⟩
  have hc' : c ∈ ((z.cps.toList.drop (HT.sIx z.length 0 lo)).take (HT.sIx z.length z.length hi - HT.sIx z.length 0 lo)) := hc
  exact strOk_iff.mp h.1 c (List.mem_of_mem_drop (List.mem_of_mem_take hc'))
def faultAt (ps : List Str) (i : Nat) : Bool := match ps[i]? with
  | some p => (itemIn p).isNone
  | none => false
theorem badOf_def (ps : List Str) : badOf ps = ((List.range ps.length).filter (faultAt ps)).map fun i : Nat => (i : Int) := rfl
def headD : List Int → PyData
  | k :: _ => .int k
  | [] => .none
theorem fault_bad (ps : List Str) : faultIx ps = headD (badOf ps) := by
  unfold faultIx
  rw [badOf_def]
  cases hf : (List.range ps.length).filter (faultAt ps) with
  | nil =>
    have : ps.findIdx? (fun p => (itemIn p).isNone) = none := by
      rw [List.findIdx?_eq_none_iff]
      intro x hx
      obtain ⟨j, hj, rfl⟩ := List.mem_iff_getElem.mp hx
      have := List.filter_eq_nil_iff.mp hf j (List.mem_range.mpr hj)
      unfold faultAt at this
      rw [List.getElem?_eq_getElem hj] at this
      simp only [Bool.not_eq_true] at this
      exact this
    rw [this]
    rfl
  | cons i r =>
    have hi : i ∈ (List.range ps.length).filter (faultAt ps) := by rw [hf]; exact List.mem_cons_self
    obtain ⟨h1, h2⟩ := List.mem_filter.mp hi
    have lt := List.mem_range.mp h1
    have pw : ((List.range ps.length).filter (faultAt ps)).Pairwise (· < ·) := List.Pairwise.filter _ List.pairwise_lt_range
    have : ps.findIdx? (fun p => (itemIn p).isNone) = some i := by
      rw [List.findIdx?_eq_some_iff_getElem]
      refine ⟨lt, ?_, fun j hj => ?_⟩
      · unfold faultAt at h2
        rw [List.getElem?_eq_getElem lt] at h2
        exact h2
      · intro q
        have hjl : j < ps.length := by omega
        have : j ∈ (List.range ps.length).filter (faultAt ps) := List.mem_filter.mpr ⟨List.mem_range.mpr hjl, by unfold faultAt; rw [List.getElem?_eq_getElem hjl]; exact q⟩
        rw [hf] at this pw
        rcases List.mem_cons.mp this with e | e
        · omega
        · have := (List.pairwise_cons.mp pw).1 j e
          omega
    rw [this]
    rfl
theorem text_bad (z : Str) : (itemsIn z).isSome = (badOf (Txt.split z ",")).isEmpty := by
  rw [badOf_def]
  cases h : itemsIn z with
  | none =>
    obtain ⟨x, hx, e⟩ := mapM_none.mp h
    obtain ⟨j, hj, rfl⟩ := List.mem_iff_getElem.mp hx
    have : j ∈ (List.range (Txt.split z ",").length).filter (faultAt (Txt.split z ",")) := List.mem_filter.mpr ⟨List.mem_range.mpr hj, by unfold faultAt; rw [List.getElem?_eq_getElem hj]; simp [e]⟩
    cases hf : (List.range (Txt.split z ",").length).filter (faultAt (Txt.split z ",")) with
    | nil => rw [hf] at this; cases this
    | cons _ _ => rfl
  | some its =>
    have e := mapM_some.mp h
    have : (List.range (Txt.split z ",").length).filter (faultAt (Txt.split z ",")) = [] := by
      rw [List.filter_eq_nil_iff]
      intro j hj
      have hj := List.mem_range.mp hj
      unfold faultAt
      rw [List.getElem?_eq_getElem hj]
      have : itemIn (Txt.split z ",")[j] ∈ its.map some := by
        rw [← e]
        exact List.mem_map.mpr ⟨_, List.getElem_mem hj, rfl⟩
      obtain ⟨q, _, hq⟩ := List.mem_map.mp this
      simp [← hq]
    rw [this]
    rfl
theorem any_strs (p : Str) (ws : List Str) : ((ws.map PyData.str).any fun z => PyData.eqv z (.str p)) = decide (p ∈ ws) := by
  rw [List.any_map]
  simp only [Function.comp_def, eqv_str]
  cases h : decide (p ∈ ws) with
  | true => exact List.any_eq_true.mpr ⟨p, of_decide_eq_true h, decide_eq_true rfl⟩
  | false =>
    have := of_decide_eq_false h
    cases q : ws.any fun x => decide (x = p) with
    | false => rfl
    | true =>
      obtain ⟨x, hx, e⟩ := List.any_eq_true.mp q
      rw [of_decide_eq_true e] at hx
      exact absurd hx this
theorem word_none (p : Str) : (!decide (p ∈ itemsAll.map textOf)) = (itemIn p).isNone := by
  cases h : itemIn p with
  | none =>
    have : p ∉ itemsAll.map textOf := fun q => by
      obtain ⟨i, hi, rfl⟩ := List.mem_map.mp q
      rw [itemIn_some.mpr ⟨item_mem.mpr hi, rfl⟩] at h
      cases h
    simp [this]
  | some i =>
    obtain ⟨h1, rfl⟩ := itemIn_some.mp h
    have : textOf i ∈ itemsAll.map textOf := List.mem_map.mpr ⟨i, item_mem.mp h1, rfl⟩
    simp [this]
theorem sh_words : SeqAt.shaped (.list ((itemsAll.map textOf).map .str)) = true := (shp_map (k := 0) fun z hz => shp_str (by
  obtain ⟨q, hq, rfl⟩ := List.mem_map.mp hz
  exact (item_texts q hq).1)).sh
theorem shp_fault (ps : List Str) : Shp 0 (faultIx ps) := by
  unfold faultIx
  split
  · exact shp_int _
  · exact shp_none
def spd_law : Spec DrawSt := fun ds θ N _ => ∃ s : Addr, ds = [.rf s] ∧ θ = .pre s ∧ ∀ a, N (.py (.bool true)) (.on a)
def w_law : WS DrawSt :=
  wSeq (wSet 1 (wCall spd_start (wCons (wVar 0) (wNil)))) (wSeq (wSet 2 (wCall spd_text (wCons (wVar 1) (wCons (wC (.int 5)) (wNil))))) (wSeq (wSet 3 (wM1 fJoin kJoin (wC (.str ",")) (wLc (wItL (wVar 2)) (wgName 16) (wYes) (wCall0 sp__law_word (wCons (wVar 16) (wNil))) [16]))) (wSeq (wSet 4 (wCall0 sp__law_meant (wCons (wVar 2) (wNil)))) (wSeq (wIfS (wOrT (wT (wOp fIsN kTrue (wCall0 sp_is_text (wCons (wVar 3) (wNil))) (wC (.bool true)))) (wOrT (wT (wOp fNe kEq (wCall0 sp_parse (wCons (wVar 3) (wNil))) (wVar 4))) (wOrT (wT (wOp fNe kEq (wCall0 sp_items (wCons (wVar 3) (wNil))) (wVar 2))) (wOrT (wT (wOp fIsN kTrue (wCall0 sp_first_fault (wCons (wVar 3) (wNil))) (wC .none))) (wT (wOp fIsN kTrue (wCall0 sp_is_set (wCons (wVar 4) (wNil))) (wC (.bool true)))))))) (wRet (wC (.bool false))) (wNext)) (wSeq (wIfS (wT (wOp fNe kEq (wCall0 sp_covered_times (wCons (wVar 3) (wNil))) (wLc (wItL (wVar 4)) (wgName 17) (wYes) (wDisp .tuple (wCons (wVar 17) (wCons (wBlt fLen kLen (wCons (wLc (wItL (wVar 2)) (wgName 16) (wT (wOp fIn kIn (wVar 17) (wCall0 sp__law_numbers (wCons (wVar 16) (wNil))))) (wVar 16) [16]) (wNil))) (wNil)))) [17]))) (wRet (wC (.bool false))) (wNext)) (wSeq (wNew 5) (wSeq (wFor (wRg1 (wCons (wBlt fLen kLen (wCons (wVar 2) (wNil))) (wNil))) (wgName 6) (wSeq (wSet 11 (wOp fAdd kAdd (wSl (wVar 2) (wNoPart) (wPart (wVar 6))) (wSl (wVar 2) (wPart (wOp fAdd kAdd (wVar 6) (wC (.int 1)))) (wNoPart)))) (wIfS (wAndT (wT (wOp fNe kEq (wVar 11) (wDisp .list (wNil)))) (wT (wOp fEq kEq (wCall0 sp__law_meant (wCons (wVar 11) (wNil))) (wVar 4)))) (wAppend 5 (wVar 6)) (wNext)))) (wFrz 5 (wSeq (wIfS (wT (wOp fNe kEq (wCall0 sp_needless (wCons (wVar 3) (wNil))) (wVar 5))) (wRet (wC (.bool false))) (wNext)) (wSeq (wSet 7 (wCall spd_text (wCons (wVar 1) (wCons (wC (.int 3)) (wNil))))) (wSeq (wSet 8 (wM1 fJoin kJoin (wC (.str ",")) (wLc (wItL (wVar 7)) (wgName 16) (wYes) (wCall0 sp__law_word (wCons (wVar 16) (wNil))) [16]))) (wSeq (wIfS (wOrT (wNotT (wT (wCall0 sp__law_true (wCons (wCall0 sp_mean_same (wCons (wVar 3) (wCons (wVar 8) (wNil)))) (wCons (wOp fEq kEq (wCall0 sp__law_meant (wCons (wVar 7) (wNil))) (wVar 4)) (wNil)))))) (wT (wOp fIsN kTrue (wCall0 sp_mean_same (wCons (wVar 3) (wCons (wM1 fJoin kJoin (wC (.str ",")) (wLc (wItL (wVar 4)) (wgName 17) (wYes) (wBlt fStr kStr (wCons (wVar 17) (wNil))) [17])) (wNil)))) (wC (.bool true))))) (wRet (wC (.bool false))) (wNext)) (wSeq (wSet 9 (wLc (wItL (wCall0 sp__law_items wNil)) (wgName 16) (wYes) (wCall0 sp__law_word (wCons (wVar 16) (wNil))) [16])) (wSeq (wFor (wRg1 (wCons (wC (.int 8)) (wNil))) (wgName 10) (wSeq (wSet 12 (wCall spd_draw (wCons (wVar 1) (wCons (wOp fAdd kAdd (wBlt fLen kLen (wCons (wVar 3) (wNil))) (wC (.int 1))) (wNil))))) (wSeq (wSet 13 (wCall spd_pick (wCons (wVar 1) (wCons (wDisp .list (wCons (wC (.str "0")) (wCons (wC (.str "1")) (wCons (wC (.str "3")) (wCons (wC (.str "-")) (wCons (wC (.str "/")) (wCons (wC (.str ",")) (wCons (wC (.str " ")) (wCons (wC (.str "")) (wNil)))))))))) (wNil))))) (wSeq (wSet 14 (wCall spd_pick (wCons (wVar 1) (wCons (wDisp .list (wCons (wOp fAdd kAdd (wOp fAdd kAdd (wSl (wVar 3) (wNoPart) (wPart (wVar 12))) (wVar 13)) (wSl (wVar 3) (wPart (wOp fAdd kAdd (wVar 12) (wC (.int 1)))) (wNoPart))) (wCons (wOp fAdd kAdd (wOp fAdd kAdd (wSl (wVar 3) (wNoPart) (wPart (wVar 12))) (wVar 13)) (wSl (wVar 3) (wPart (wVar 12)) (wNoPart))) (wNil)))) (wNil))))) (wSeq (wSet 15 (wLc (wRg1 (wCons (wBlt fLen kLen (wCons (wM1 fSplit kSplit (wVar 14) (wC (.str ","))) (wNil))) (wNil))) (wgName 18) (wT (wOp fNi kIn (wOp fIx kIx (wM1 fSplit kSplit (wVar 14) (wC (.str ","))) (wVar 18)) (wVar 9))) (wVar 18) [18])) (wIfS (wOrT (wT (wOp fNe kEq (wCall0 sp_first_fault (wCons (wVar 14) (wNil))) (wIf (wT (wOp fNe kEq (wVar 15) (wDisp .list (wNil)))) (wOp fIx kIx (wVar 15) (wC (.int 0))) (wC .none)))) (wNotT (wT (wCall0 sp__law_true (wCons (wCall0 sp_is_text (wCons (wVar 14) (wNil))) (wCons (wOp fEq kEq (wVar 15) (wDisp .list (wNil))) (wNil))))))) (wRet (wC (.bool false))) (wNext))))))) (wRet (wAnd (wOp fIs kTrue (wCall0 sp_is_text (wCons (wC .none) (wNil))) (wC (.bool false))) (wAnd (wOp fIs kTrue (wCall0 sp_is_text (wCons (wC (.str "")) (wNil))) (wC (.bool false))) (wAnd (wOp fIs kTrue (wCall0 sp_is_text (wCons (wDisp .list (wCons (wC (.str "1")) (wNil))) (wNil))) (wC (.bool false))) (wOp fEq kEq (wCall0 sp_first_fault (wCons (wC (.str "")) (wNil))) (wC (.int 0)))))))))))))))))))))
theorem law_k02 : ∀ ds θ N Nx, spd_law ds θ N Nx → w_law (bodyEN N Nx) (startD 19 ds) θ := by
  rintro ds θ N Nx ⟨s, rfl, rfl, n⟩
  simp only [w_law, spd_start, spd_text, wVar, wOwn, wC, wOp, wT, wChain, wAndT, wOrT, wNotT, wAnd, wOr, wNot, wIf, wNil, wCons, wDisp, wCall, wCall0, wNoPart, wPart, wSl, wRevL, wBlt, wItL, wItT, wItS, wRg1, wRg2, wEnum, wZip, wLR, wLR2, wYes, wM1, wFmt, wJoined, wIsi, wNeg, wNewD, wOwnCat, wPar2, wNext, wSeq, wNever, wSet, wNew, wAug, wExtend, wAppend, wPut, wFrz, wRet, wRetOwn, wRetN, wDrop, wIfS, wgName, wgTup, wUnp, wRaise, bodyEN, wLc, wFor, wSortSet, e_add_i, e_add_s, e_add_l, e_add_t, e_kadd_i, e_kadd_s, e_kadd_l, e_kadd_t, e_sub, e_kt, e_mul_i, e_mul_l, e_kmul_i, e_kmul_l, e_div, e_kdiv, e_mod, e_kmod, e_cmp, e_eq, e_ne, e_keq, e_is_n, e_is_b, e_isn_n, e_isn_b, e_non_n, e_non_l, e_non_t, e_non_i, e_non_s, e_non_b, e_non_x, e_in_l, e_in_t, e_ni_l, e_ni_t, e_kin_l, e_kin_t, e_kin_s, e_ix_l, e_ix_t, e_ix_s, e_kix_l, e_kix_t, e_kix_s, e_sl_l, e_sl_t, e_sl_s, e_len_l, e_len_t, e_len_s, e_klen_l, e_klen_t, e_klen_s, e_kany, e_list_l, e_list_t, e_tup_l, e_tup_t, e_sum, e_max, e_max2, e_min, e_kne, e_kne2, e_all, e_str, e_kstr, e_int, e_kint, e_split, e_ksplit, e_part, e_kpart, e_join, e_kjoin, e_pys0, e_pys1, e_sa0, e_sa1, e_wipe0, e_wipe1, e_js0, e_js1, e_ty_i, e_ty_b, e_ty_n, e_ty_s, e_ty_l, e_ty_t, e_isi_ii, e_isi_ib, e_isi_in, e_isi_is, e_isi_il, e_isi_it, e_isi_bi, e_isi_bb, e_isi_bn, e_isi_bs, e_isi_bl, e_isi_bt, e_isi_li, e_isi_lb, e_isi_ln, e_isi_ls, e_isi_ll, e_isi_lt, e_isi_ti, e_isi_tb, e_isi_tn, e_isi_ts, e_isi_tl, e_isi_tt, e_isi_si, e_isi_sb, e_isi_sn, e_isi_ss, e_isi_sl, e_isi_st, e_up, e_st0, e_st1, e_st2, exists_eq_left, exists_eq_left', exists_eq_right, exists_eq_right', exists_eq', exists_eq, true_and, and_true, and_self, false_and, and_false, exists_and_left, exists_and_right, exists_const, Option.some.injEq, Option.map_some, Option.map_none, Sl.is.injEq, Sl.own.injEq, D.py.injEq, D.ex.injEq, D.rf.injEq, PyData.int.injEq, PyData.bool.injEq, PyData.str.injEq, PyData.list.injEq, PyData.tuple.injEq, List.cons.injEq, if_true, if_false, eq_self, Bool.false_eq_true, Bool.true_eq_false, Bool.not_true, Bool.not_false, Bool.not_not, List.getElem?_cons_zero, List.getElem?_cons_succ, List.set_cons_zero, List.set_cons_succ, List.length_cons, List.length_nil, List.cons_append, List.nil_append, reduceCtorEq, List.replicate_zero, List.replicate_succ, Nat.reduceAdd, Nat.reduceSub, decide_true, decide_false, intsOf_map', blsOf_map', strsOf_map', map_int_inj, map_str_inj, map_bool_inj, map_itD_inj, itD_iff, sh_int, sh_bool, sh_none, sh_itD, sh_nil, sh_ints, sh_its, eqv_int, eqv_bool, eqv_str, eqv_itD, eqv_ints, eqv_strs, eqv_its, eqv_nil, Nat.zero_le, and_assoc]
  refine fun a => ⟨by omega, by omega, fun its ok ne hl => ?_⟩
  have T := txts ok ne (by omega)
  have tkj := T.kj
  have hm : setOf its ∈ subs ten := setOf_subs its
  have mne := setOf_ne ok ne
  have hset : isSetD (.list ((setOf its).map .int)) = true := by rw [isSetD_eq, setD_ints hm mne]; rfl
  have hfine := fine_subs hm
  have hff : faultIx (its.map textOf) = .none := by
    unfold faultIx
    have : (its.map textOf).findIdx? (fun p => (itemIn p).isNone) = none := by
      rw [List.findIdx?_eq_none_iff]
      intro x hx
      obtain ⟨q, hq, rfl⟩ := List.mem_map.mp hx
      rw [itemIn_some.mpr ⟨List.all_eq_true.mp ok q hq, rfl⟩]
      rfl
    rw [this]
  refine lc_w T ?_
  simp only [wVar, wOwn, wC, wOp, wT, wChain, wAndT, wOrT, wNotT, wAnd, wOr, wNot, wIf, wNil, wCons, wDisp, wCall, wCall0, wNoPart, wPart, wSl, wRevL, wBlt, wItL, wItT, wItS, wRg1, wRg2, wEnum, wZip, wLR, wLR2, wYes, wM1, wFmt, wJoined, wIsi, wNeg, wNewD, wOwnCat, wPar2, wNext, wSeq, wNever, wSet, wNew, wAug, wExtend, wAppend, wPut, wFrz, wRet, wRetOwn, wRetN, wDrop, wIfS, wgName, wgTup, wUnp, wRaise, bodyEN, wLc, wFor, wSortSet, e_add_i, e_add_s, e_add_l, e_add_t, e_kadd_i, e_kadd_s, e_kadd_l, e_kadd_t, e_sub, e_kt, e_mul_i, e_mul_l, e_kmul_i, e_kmul_l, e_div, e_kdiv, e_mod, e_kmod, e_cmp, e_eq, e_ne, e_keq, e_is_n, e_is_b, e_isn_n, e_isn_b, e_non_n, e_non_l, e_non_t, e_non_i, e_non_s, e_non_b, e_non_x, e_in_l, e_in_t, e_ni_l, e_ni_t, e_kin_l, e_kin_t, e_kin_s, e_ix_l, e_ix_t, e_ix_s, e_kix_l, e_kix_t, e_kix_s, e_sl_l, e_sl_t, e_sl_s, e_len_l, e_len_t, e_len_s, e_klen_l, e_klen_t, e_klen_s, e_kany, e_list_l, e_list_t, e_tup_l, e_tup_t, e_sum, e_max, e_max2, e_min, e_kne, e_kne2, e_all, e_str, e_kstr, e_int, e_kint, e_split, e_ksplit, e_part, e_kpart, e_join, e_kjoin, e_pys0, e_pys1, e_sa0, e_sa1, e_wipe0, e_wipe1, e_js0, e_js1, e_ty_i, e_ty_b, e_ty_n, e_ty_s, e_ty_l, e_ty_t, e_isi_ii, e_isi_ib, e_isi_in, e_isi_is, e_isi_il, e_isi_it, e_isi_bi, e_isi_bb, e_isi_bn, e_isi_bs, e_isi_bl, e_isi_bt, e_isi_li, e_isi_lb, e_isi_ln, e_isi_ls, e_isi_ll, e_isi_lt, e_isi_ti, e_isi_tb, e_isi_tn, e_isi_ts, e_isi_tl, e_isi_tt, e_isi_si, e_isi_sb, e_isi_sn, e_isi_ss, e_isi_sl, e_isi_st, e_up, e_st0, e_st1, e_st2, exists_eq_left, exists_eq_left', exists_eq_right, exists_eq_right', exists_eq', exists_eq, true_and, and_true, and_self, false_and, and_false, exists_and_left, exists_and_right, exists_const, Option.some.injEq, Option.map_some, Option.map_none, Sl.is.injEq, Sl.own.injEq, D.py.injEq, D.ex.injEq, D.rf.injEq, PyData.int.injEq, PyData.bool.injEq, PyData.str.injEq, PyData.list.injEq, PyData.tuple.injEq, List.cons.injEq, if_true, if_false, eq_self, Bool.false_eq_true, Bool.true_eq_false, Bool.not_true, Bool.not_false, Bool.not_not, List.getElem?_cons_zero, List.getElem?_cons_succ, List.set_cons_zero, List.set_cons_succ, List.length_cons, List.length_nil, List.cons_append, List.nil_append, reduceCtorEq, List.replicate_zero, List.replicate_succ, Nat.reduceAdd, Nat.reduceSub, decide_true, decide_false, intsOf_map', blsOf_map', strsOf_map', map_int_inj, map_str_inj, map_bool_inj, map_itD_inj, itD_iff, sh_int, sh_bool, sh_none, sh_itD, sh_nil, sh_ints, sh_its, eqv_int, eqv_bool, eqv_str, eqv_itD, eqv_ints, eqv_strs, eqv_its, eqv_nil, Nat.zero_le, and_assoc, tkj, join_fold, sp__law_meant, T.ok, T.l4, sp_is_text, T.it, T.tf, Option.isSome_some, sp_parse, sp_items, sp_first_fault, split_joinI ok ne, hff, sp_is_set, hset, hfine, sp_covered_times]
  have hl0 := setOf_subs its
  refine lcGo_map2 PyData.int (fun k => .tuple [.int k, .int ((its.filter fun q => decide (k ∈ numbersOf q)).length : Nat)]) _ (fun k hk T' t' => ?_) (le_line (by have := subs_len hm; omega)) ?_
  · simp only [wVar, wOwn, wC, wOp, wT, wChain, wAndT, wOrT, wNotT, wAnd, wOr, wNot, wIf, wNil, wCons, wDisp, wCall, wCall0, wNoPart, wPart, wSl, wRevL, wBlt, wItL, wItT, wItS, wRg1, wRg2, wEnum, wZip, wLR, wLR2, wYes, wM1, wFmt, wJoined, wIsi, wNeg, wNewD, wOwnCat, wPar2, wNext, wSeq, wNever, wSet, wNew, wAug, wExtend, wAppend, wPut, wFrz, wRet, wRetOwn, wRetN, wDrop, wIfS, wgName, wgTup, wUnp, wRaise, bodyEN, wLc, wFor, wSortSet, e_add_i, e_add_s, e_add_l, e_add_t, e_kadd_i, e_kadd_s, e_kadd_l, e_kadd_t, e_sub, e_kt, e_mul_i, e_mul_l, e_kmul_i, e_kmul_l, e_div, e_kdiv, e_mod, e_kmod, e_cmp, e_eq, e_ne, e_keq, e_is_n, e_is_b, e_isn_n, e_isn_b, e_non_n, e_non_l, e_non_t, e_non_i, e_non_s, e_non_b, e_non_x, e_in_l, e_in_t, e_ni_l, e_ni_t, e_kin_l, e_kin_t, e_kin_s, e_ix_l, e_ix_t, e_ix_s, e_kix_l, e_kix_t, e_kix_s, e_sl_l, e_sl_t, e_sl_s, e_len_l, e_len_t, e_len_s, e_klen_l, e_klen_t, e_klen_s, e_kany, e_list_l, e_list_t, e_tup_l, e_tup_t, e_sum, e_max, e_max2, e_min, e_kne, e_kne2, e_all, e_str, e_kstr, e_int, e_kint, e_split, e_ksplit, e_part, e_kpart, e_join, e_kjoin, e_pys0, e_pys1, e_sa0, e_sa1, e_wipe0, e_wipe1, e_js0, e_js1, e_ty_i, e_ty_b, e_ty_n, e_ty_s, e_ty_l, e_ty_t, e_isi_ii, e_isi_ib, e_isi_in, e_isi_is, e_isi_il, e_isi_it, e_isi_bi, e_isi_bb, e_isi_bn, e_isi_bs, e_isi_bl, e_isi_bt, e_isi_li, e_isi_lb, e_isi_ln, e_isi_ls, e_isi_ll, e_isi_lt, e_isi_ti, e_isi_tb, e_isi_tn, e_isi_ts, e_isi_tl, e_isi_tt, e_isi_si, e_isi_sb, e_isi_sn, e_isi_ss, e_isi_sl, e_isi_st, e_up, e_st0, e_st1, e_st2, exists_eq_left, exists_eq_left', exists_eq_right, exists_eq_right', exists_eq', exists_eq, true_and, and_true, and_self, false_and, and_false, exists_and_left, exists_and_right, exists_const, Option.some.injEq, Option.map_some, Option.map_none, Sl.is.injEq, Sl.own.injEq, D.py.injEq, D.ex.injEq, D.rf.injEq, PyData.int.injEq, PyData.bool.injEq, PyData.str.injEq, PyData.list.injEq, PyData.tuple.injEq, List.cons.injEq, if_true, if_false, eq_self, Bool.false_eq_true, Bool.true_eq_false, Bool.not_true, Bool.not_false, Bool.not_not, List.getElem?_cons_zero, List.getElem?_cons_succ, List.set_cons_zero, List.set_cons_succ, List.length_cons, List.length_nil, List.cons_append, List.nil_append, reduceCtorEq, List.replicate_zero, List.replicate_succ, Nat.reduceAdd, Nat.reduceSub, decide_true, decide_false, intsOf_map', blsOf_map', strsOf_map', map_int_inj, map_str_inj, map_bool_inj, map_itD_inj, itD_iff, sh_int, sh_bool, sh_none, sh_itD, sh_nil, sh_ints, sh_its, eqv_int, eqv_bool, eqv_str, eqv_itD, eqv_ints, eqv_strs, eqv_its, eqv_nil, Nat.zero_le, and_assoc]
    refine lcGo_fm2 itD (fun q => decide (k ∈ numbersOf q)) itD _ (fun q hq T'' F t'' => ?_) (le_line (by omega)) ?_
    · simp only [wVar, wOwn, wC, wOp, wT, wChain, wAndT, wOrT, wNotT, wAnd, wOr, wNot, wIf, wNil, wCons, wDisp, wCall, wCall0, wNoPart, wPart, wSl, wRevL, wBlt, wItL, wItT, wItS, wRg1, wRg2, wEnum, wZip, wLR, wLR2, wYes, wM1, wFmt, wJoined, wIsi, wNeg, wNewD, wOwnCat, wPar2, wNext, wSeq, wNever, wSet, wNew, wAug, wExtend, wAppend, wPut, wFrz, wRet, wRetOwn, wRetN, wDrop, wIfS, wgName, wgTup, wUnp, wRaise, bodyEN, wLc, wFor, wSortSet, e_add_i, e_add_s, e_add_l, e_add_t, e_kadd_i, e_kadd_s, e_kadd_l, e_kadd_t, e_sub, e_kt, e_mul_i, e_mul_l, e_kmul_i, e_kmul_l, e_div, e_kdiv, e_mod, e_kmod, e_cmp, e_eq, e_ne, e_keq, e_is_n, e_is_b, e_isn_n, e_isn_b, e_non_n, e_non_l, e_non_t, e_non_i, e_non_s, e_non_b, e_non_x, e_in_l, e_in_t, e_ni_l, e_ni_t, e_kin_l, e_kin_t, e_kin_s, e_ix_l, e_ix_t, e_ix_s, e_kix_l, e_kix_t, e_kix_s, e_sl_l, e_sl_t, e_sl_s, e_len_l, e_len_t, e_len_s, e_klen_l, e_klen_t, e_klen_s, e_kany, e_list_l, e_list_t, e_tup_l, e_tup_t, e_sum, e_max, e_max2, e_min, e_kne, e_kne2, e_all, e_str, e_kstr, e_int, e_kint, e_split, e_ksplit, e_part, e_kpart, e_join, e_kjoin, e_pys0, e_pys1, e_sa0, e_sa1, e_wipe0, e_wipe1, e_js0, e_js1, e_ty_i, e_ty_b, e_ty_n, e_ty_s, e_ty_l, e_ty_t, e_isi_ii, e_isi_ib, e_isi_in, e_isi_is, e_isi_il, e_isi_it, e_isi_bi, e_isi_bb, e_isi_bn, e_isi_bs, e_isi_bl, e_isi_bt, e_isi_li, e_isi_lb, e_isi_ln, e_isi_ls, e_isi_ll, e_isi_lt, e_isi_ti, e_isi_tb, e_isi_tn, e_isi_ts, e_isi_tl, e_isi_tt, e_isi_si, e_isi_sb, e_isi_sn, e_isi_ss, e_isi_sl, e_isi_st, e_up, e_st0, e_st1, e_st2, exists_eq_left, exists_eq_left', exists_eq_right, exists_eq_right', exists_eq', exists_eq, true_and, and_true, and_self, false_and, and_false, exists_and_left, exists_and_right, exists_const, Option.some.injEq, Option.map_some, Option.map_none, Sl.is.injEq, Sl.own.injEq, D.py.injEq, D.ex.injEq, D.rf.injEq, PyData.int.injEq, PyData.bool.injEq, PyData.str.injEq, PyData.list.injEq, PyData.tuple.injEq, List.cons.injEq, if_true, if_false, eq_self, Bool.false_eq_true, Bool.true_eq_false, Bool.not_true, Bool.not_false, Bool.not_not, List.getElem?_cons_zero, List.getElem?_cons_succ, List.set_cons_zero, List.set_cons_succ, List.length_cons, List.length_nil, List.cons_append, List.nil_append, reduceCtorEq, List.replicate_zero, List.replicate_succ, Nat.reduceAdd, Nat.reduceSub, decide_true, decide_false, intsOf_map', blsOf_map', strsOf_map', map_int_inj, map_str_inj, map_bool_inj, map_itD_inj, itD_iff, sh_int, sh_bool, sh_none, sh_itD, sh_nil, sh_ints, sh_its, eqv_int, eqv_bool, eqv_str, eqv_itD, eqv_ints, eqv_strs, eqv_its, eqv_nil, Nat.zero_le, and_assoc, sp__law_numbers, any_ints]
      exact ⟨q, rfl, rfl, rfl, List.all_eq_true.mp ok q hq, t''⟩
    · simp only [wVar, wOwn, wC, wOp, wT, wChain, wAndT, wOrT, wNotT, wAnd, wOr, wNot, wIf, wNil, wCons, wDisp, wCall, wCall0, wNoPart, wPart, wSl, wRevL, wBlt, wItL, wItT, wItS, wRg1, wRg2, wEnum, wZip, wLR, wLR2, wYes, wM1, wFmt, wJoined, wIsi, wNeg, wNewD, wOwnCat, wPar2, wNext, wSeq, wNever, wSet, wNew, wAug, wExtend, wAppend, wPut, wFrz, wRet, wRetOwn, wRetN, wDrop, wIfS, wgName, wgTup, wUnp, wRaise, bodyEN, wLc, wFor, wSortSet, e_add_i, e_add_s, e_add_l, e_add_t, e_kadd_i, e_kadd_s, e_kadd_l, e_kadd_t, e_sub, e_kt, e_mul_i, e_mul_l, e_kmul_i, e_kmul_l, e_div, e_kdiv, e_mod, e_kmod, e_cmp, e_eq, e_ne, e_keq, e_is_n, e_is_b, e_isn_n, e_isn_b, e_non_n, e_non_l, e_non_t, e_non_i, e_non_s, e_non_b, e_non_x, e_in_l, e_in_t, e_ni_l, e_ni_t, e_kin_l, e_kin_t, e_kin_s, e_ix_l, e_ix_t, e_ix_s, e_kix_l, e_kix_t, e_kix_s, e_sl_l, e_sl_t, e_sl_s, e_len_l, e_len_t, e_len_s, e_klen_l, e_klen_t, e_klen_s, e_kany, e_list_l, e_list_t, e_tup_l, e_tup_t, e_sum, e_max, e_max2, e_min, e_kne, e_kne2, e_all, e_str, e_kstr, e_int, e_kint, e_split, e_ksplit, e_part, e_kpart, e_join, e_kjoin, e_pys0, e_pys1, e_sa0, e_sa1, e_wipe0, e_wipe1, e_js0, e_js1, e_ty_i, e_ty_b, e_ty_n, e_ty_s, e_ty_l, e_ty_t, e_isi_ii, e_isi_ib, e_isi_in, e_isi_is, e_isi_il, e_isi_it, e_isi_bi, e_isi_bb, e_isi_bn, e_isi_bs, e_isi_bl, e_isi_bt, e_isi_li, e_isi_lb, e_isi_ln, e_isi_ls, e_isi_ll, e_isi_lt, e_isi_ti, e_isi_tb, e_isi_tn, e_isi_ts, e_isi_tl, e_isi_tt, e_isi_si, e_isi_sb, e_isi_sn, e_isi_ss, e_isi_sl, e_isi_st, e_up, e_st0, e_st1, e_st2, exists_eq_left, exists_eq_left', exists_eq_right, exists_eq_right', exists_eq', exists_eq, true_and, and_true, and_self, false_and, and_false, exists_and_left, exists_and_right, exists_const, Option.some.injEq, Option.map_some, Option.map_none, Sl.is.injEq, Sl.own.injEq, D.py.injEq, D.ex.injEq, D.rf.injEq, PyData.int.injEq, PyData.bool.injEq, PyData.str.injEq, PyData.list.injEq, PyData.tuple.injEq, List.cons.injEq, if_true, if_false, eq_self, Bool.false_eq_true, Bool.true_eq_false, Bool.not_true, Bool.not_false, Bool.not_not, List.getElem?_cons_zero, List.getElem?_cons_succ, List.set_cons_zero, List.set_cons_succ, List.length_cons, List.length_nil, List.cons_append, List.nil_append, reduceCtorEq, List.replicate_zero, List.replicate_succ, Nat.reduceAdd, Nat.reduceSub, decide_true, decide_false, intsOf_map', blsOf_map', strsOf_map', map_int_inj, map_str_inj, map_bool_inj, map_itD_inj, itD_iff, sh_int, sh_bool, sh_none, sh_itD, sh_nil, sh_ints, sh_its, eqv_int, eqv_bool, eqv_str, eqv_itD, eqv_ints, eqv_strs, eqv_its, eqv_nil, Nat.zero_le, and_assoc, List.length_map]
      exact ⟨by decide, t'⟩
  have shT : Shp 2 (.list (timesOf its)) := shp_map fun k _ => shp_tuple fun d hd => by
    simp at hd
    rcases hd with rfl | rfl <;> exact shp_int _
  have etm : ((setOf its).map fun k => PyData.tuple [.int k, .int ((its.filter fun q => decide (k ∈ numbersOf q)).length : Nat)]) = timesOf its := rfl
  rw [etm]
  have shT1 := shT.sh
  have shT2 := shp_self shT
  simp only [wVar, wOwn, wC, wOp, wT, wChain, wAndT, wOrT, wNotT, wAnd, wOr, wNot, wIf, wNil, wCons, wDisp, wCall, wCall0, wNoPart, wPart, wSl, wRevL, wBlt, wItL, wItT, wItS, wRg1, wRg2, wEnum, wZip, wLR, wLR2, wYes, wM1, wFmt, wJoined, wIsi, wNeg, wNewD, wOwnCat, wPar2, wNext, wSeq, wNever, wSet, wNew, wAug, wExtend, wAppend, wPut, wFrz, wRet, wRetOwn, wRetN, wDrop, wIfS, wgName, wgTup, wUnp, wRaise, bodyEN, wLc, wFor, wSortSet, e_add_i, e_add_s, e_add_l, e_add_t, e_kadd_i, e_kadd_s, e_kadd_l, e_kadd_t, e_sub, e_kt, e_mul_i, e_mul_l, e_kmul_i, e_kmul_l, e_div, e_kdiv, e_mod, e_kmod, e_cmp, e_eq, e_ne, e_keq, e_is_n, e_is_b, e_isn_n, e_isn_b, e_non_n, e_non_l, e_non_t, e_non_i, e_non_s, e_non_b, e_non_x, e_in_l, e_in_t, e_ni_l, e_ni_t, e_kin_l, e_kin_t, e_kin_s, e_ix_l, e_ix_t, e_ix_s, e_kix_l, e_kix_t, e_kix_s, e_sl_l, e_sl_t, e_sl_s, e_len_l, e_len_t, e_len_s, e_klen_l, e_klen_t, e_klen_s, e_kany, e_list_l, e_list_t, e_tup_l, e_tup_t, e_sum, e_max, e_max2, e_min, e_kne, e_kne2, e_all, e_str, e_kstr, e_int, e_kint, e_split, e_ksplit, e_part, e_kpart, e_join, e_kjoin, e_pys0, e_pys1, e_sa0, e_sa1, e_wipe0, e_wipe1, e_js0, e_js1, e_ty_i, e_ty_b, e_ty_n, e_ty_s, e_ty_l, e_ty_t, e_isi_ii, e_isi_ib, e_isi_in, e_isi_is, e_isi_il, e_isi_it, e_isi_bi, e_isi_bb, e_isi_bn, e_isi_bs, e_isi_bl, e_isi_bt, e_isi_li, e_isi_lb, e_isi_ln, e_isi_ls, e_isi_ll, e_isi_lt, e_isi_ti, e_isi_tb, e_isi_tn, e_isi_ts, e_isi_tl, e_isi_tt, e_isi_si, e_isi_sb, e_isi_sn, e_isi_ss, e_isi_sl, e_isi_st, e_up, e_st0, e_st1, e_st2, exists_eq_left, exists_eq_left', exists_eq_right, exists_eq_right', exists_eq', exists_eq, true_and, and_true, and_self, false_and, and_false, exists_and_left, exists_and_right, exists_const, Option.some.injEq, Option.map_some, Option.map_none, Sl.is.injEq, Sl.own.injEq, D.py.injEq, D.ex.injEq, D.rf.injEq, PyData.int.injEq, PyData.bool.injEq, PyData.str.injEq, PyData.list.injEq, PyData.tuple.injEq, List.cons.injEq, if_true, if_false, eq_self, Bool.false_eq_true, Bool.true_eq_false, Bool.not_true, Bool.not_false, Bool.not_not, List.getElem?_cons_zero, List.getElem?_cons_succ, List.set_cons_zero, List.set_cons_succ, List.length_cons, List.length_nil, List.cons_append, List.nil_append, reduceCtorEq, List.replicate_zero, List.replicate_succ, Nat.reduceAdd, Nat.reduceSub, decide_true, decide_false, intsOf_map', blsOf_map', strsOf_map', map_int_inj, map_str_inj, map_bool_inj, map_itD_inj, itD_iff, sh_int, sh_bool, sh_none, sh_itD, sh_nil, sh_ints, sh_its, eqv_int, eqv_bool, eqv_str, eqv_itD, eqv_ints, eqv_strs, eqv_its, eqv_nil, Nat.zero_le, and_assoc, shT1, shT2, List.length_map]
  refine ⟨by omega, by omega, ?_⟩
  have eN : ((its.length : Nat) : Int).toNat = its.length := by omega
  rw [eN]
  refine forGo_rg (fun i ρ θ => θ = .on a ∧ ∃ s6 s11 : Sl, ρ = [.is (.rf s), .is (.rf a), .is (.py (.list (its.map itD))), .is (.py (.str (joinI its))), .is (.py (.list ((setOf its).map .int))), .own ((needTo its i).map .int), s6, .no, .no, .no, .no, s11, .no, .no, .no, .no, .no, .no, .no])
    (fun i hi ρ θ h R hR => ?_) (fun ρ θ h => ?_) ⟨rfl, .no, .no, rfl⟩
  · obtain ⟨rfl, s6, s11, rfl⟩ := h
    have nx := fun ρ' s6 s11 (h : ρ' = [.is (.rf s), .is (.rf a), .is (.py (.list (its.map itD))), .is (.py (.str (joinI its))), .is (.py (.list ((setOf its).map .int))), .own ((needTo its (i + 1)).map .int), s6, .no, .no, .no, .no, s11, .no, .no, .no, .no, .no, .no, .no]) => hR ρ' _ ⟨rfl, s6, s11, h⟩
    have c1 : cutD (its.map itD) none (some (i : Int)) = (its.take i).map itD := by rw [cutD_take (by rw [List.length_map]; omega), List.map_take]
    have c2 : cutD (its.map itD) (some ((i : Int) + 1)) none = (its.drop (i + 1)).map itD := by
      have := cutD_drop (xs := its.map itD) (i := i + 1) (by rw [List.length_map]; omega)
      rw [Int.natCast_add] at this
      rw [List.map_drop]
      exact this
    have al : (its.take i ++ its.drop (i + 1)).all itemOk = true := by
      have ok' := List.all_eq_true.mp ok
      rw [List.all_eq_true]
      intro q hq
      rcases List.mem_append.mp hq with hq | hq
      · exact ok' q (List.mem_of_mem_take hq)
      · exact ok' q (List.mem_of_mem_drop hq)
    have ll : ((its.take i ++ its.drop (i + 1)).length ≤ 400) = True := eq_true (by simp; omega)
    have sz : ((its.take i).map itD).length + ((its.drop (i + 1)).map itD).length ≤ sizeLine := by
      rw [List.length_map, List.length_map, ← List.length_append]
      exact le_line (by have := of_eq_true ll; omega)
    have n0 := needTo_len its i
    have z0 : (0 : Int) + (i : Int) = i := by omega
    simp only [z0, wVar, wOwn, wC, wOp, wT, wChain, wAndT, wOrT, wNotT, wAnd, wOr, wNot, wIf, wNil, wCons, wDisp, wCall, wCall0, wNoPart, wPart, wSl, wRevL, wBlt, wItL, wItT, wItS, wRg1, wRg2, wEnum, wZip, wLR, wLR2, wYes, wM1, wFmt, wJoined, wIsi, wNeg, wNewD, wOwnCat, wPar2, wNext, wSeq, wNever, wSet, wNew, wAug, wExtend, wAppend, wPut, wFrz, wRet, wRetOwn, wRetN, wDrop, wIfS, wgName, wgTup, wUnp, wRaise, bodyEN, wLc, wFor, wSortSet, e_add_i, e_add_s, e_add_l, e_add_t, e_kadd_i, e_kadd_s, e_kadd_l, e_kadd_t, e_sub, e_kt, e_mul_i, e_mul_l, e_kmul_i, e_kmul_l, e_div, e_kdiv, e_mod, e_kmod, e_cmp, e_eq, e_ne, e_keq, e_is_n, e_is_b, e_isn_n, e_isn_b, e_non_n, e_non_l, e_non_t, e_non_i, e_non_s, e_non_b, e_non_x, e_in_l, e_in_t, e_ni_l, e_ni_t, e_kin_l, e_kin_t, e_kin_s, e_ix_l, e_ix_t, e_ix_s, e_kix_l, e_kix_t, e_kix_s, e_sl_l, e_sl_t, e_sl_s, e_len_l, e_len_t, e_len_s, e_klen_l, e_klen_t, e_klen_s, e_kany, e_list_l, e_list_t, e_tup_l, e_tup_t, e_sum, e_max, e_max2, e_min, e_kne, e_kne2, e_all, e_str, e_kstr, e_int, e_kint, e_split, e_ksplit, e_part, e_kpart, e_join, e_kjoin, e_pys0, e_pys1, e_sa0, e_sa1, e_wipe0, e_wipe1, e_js0, e_js1, e_ty_i, e_ty_b, e_ty_n, e_ty_s, e_ty_l, e_ty_t, e_isi_ii, e_isi_ib, e_isi_in, e_isi_is, e_isi_il, e_isi_it, e_isi_bi, e_isi_bb, e_isi_bn, e_isi_bs, e_isi_bl, e_isi_bt, e_isi_li, e_isi_lb, e_isi_ln, e_isi_ls, e_isi_ll, e_isi_lt, e_isi_ti, e_isi_tb, e_isi_tn, e_isi_ts, e_isi_tl, e_isi_tt, e_isi_si, e_isi_sb, e_isi_sn, e_isi_ss, e_isi_sl, e_isi_st, e_up, e_st0, e_st1, e_st2, exists_eq_left, exists_eq_left', exists_eq_right, exists_eq_right', exists_eq', exists_eq, true_and, and_true, and_self, false_and, and_false, exists_and_left, exists_and_right, exists_const, Option.some.injEq, Option.map_some, Option.map_none, Sl.is.injEq, Sl.own.injEq, D.py.injEq, D.ex.injEq, D.rf.injEq, PyData.int.injEq, PyData.bool.injEq, PyData.str.injEq, PyData.list.injEq, PyData.tuple.injEq, List.cons.injEq, if_true, if_false, eq_self, Bool.false_eq_true, Bool.true_eq_false, Bool.not_true, Bool.not_false, Bool.not_not, List.getElem?_cons_zero, List.getElem?_cons_succ, List.set_cons_zero, List.set_cons_succ, List.length_cons, List.length_nil, List.cons_append, List.nil_append, reduceCtorEq, List.replicate_zero, List.replicate_succ, Nat.reduceAdd, Nat.reduceSub, decide_true, decide_false, intsOf_map', blsOf_map', strsOf_map', map_int_inj, map_str_inj, map_bool_inj, map_itD_inj, itD_iff, sh_int, sh_bool, sh_none, sh_itD, sh_nil, sh_ints, sh_its, eqv_int, eqv_bool, eqv_str, eqv_itD, eqv_ints, eqv_strs, eqv_its, eqv_nil, Nat.zero_le, and_assoc, c1, c2, sz, ← List.map_append, List.isEmpty_map]
    rw [needTo_succ] at nx
    unfold needP at nx
    cases he : (its.take i ++ its.drop (i + 1)).isEmpty with
    | true =>
      rw [he] at nx
      simp only [wVar, wOwn, wC, wOp, wT, wChain, wAndT, wOrT, wNotT, wAnd, wOr, wNot, wIf, wNil, wCons, wDisp, wCall, wCall0, wNoPart, wPart, wSl, wRevL, wBlt, wItL, wItT, wItS, wRg1, wRg2, wEnum, wZip, wLR, wLR2, wYes, wM1, wFmt, wJoined, wIsi, wNeg, wNewD, wOwnCat, wPar2, wNext, wSeq, wNever, wSet, wNew, wAug, wExtend, wAppend, wPut, wFrz, wRet, wRetOwn, wRetN, wDrop, wIfS, wgName, wgTup, wUnp, wRaise, bodyEN, wLc, wFor, wSortSet, e_add_i, e_add_s, e_add_l, e_add_t, e_kadd_i, e_kadd_s, e_kadd_l, e_kadd_t, e_sub, e_kt, e_mul_i, e_mul_l, e_kmul_i, e_kmul_l, e_div, e_kdiv, e_mod, e_kmod, e_cmp, e_eq, e_ne, e_keq, e_is_n, e_is_b, e_isn_n, e_isn_b, e_non_n, e_non_l, e_non_t, e_non_i, e_non_s, e_non_b, e_non_x, e_in_l, e_in_t, e_ni_l, e_ni_t, e_kin_l, e_kin_t, e_kin_s, e_ix_l, e_ix_t, e_ix_s, e_kix_l, e_kix_t, e_kix_s, e_sl_l, e_sl_t, e_sl_s, e_len_l, e_len_t, e_len_s, e_klen_l, e_klen_t, e_klen_s, e_kany, e_list_l, e_list_t, e_tup_l, e_tup_t, e_sum, e_max, e_max2, e_min, e_kne, e_kne2, e_all, e_str, e_kstr, e_int, e_kint, e_split, e_ksplit, e_part, e_kpart, e_join, e_kjoin, e_pys0, e_pys1, e_sa0, e_sa1, e_wipe0, e_wipe1, e_js0, e_js1, e_ty_i, e_ty_b, e_ty_n, e_ty_s, e_ty_l, e_ty_t, e_isi_ii, e_isi_ib, e_isi_in, e_isi_is, e_isi_il, e_isi_it, e_isi_bi, e_isi_bb, e_isi_bn, e_isi_bs, e_isi_bl, e_isi_bt, e_isi_li, e_isi_lb, e_isi_ln, e_isi_ls, e_isi_ll, e_isi_lt, e_isi_ti, e_isi_tb, e_isi_tn, e_isi_ts, e_isi_tl, e_isi_tt, e_isi_si, e_isi_sb, e_isi_sn, e_isi_ss, e_isi_sl, e_isi_st, e_up, e_st0, e_st1, e_st2, exists_eq_left, exists_eq_left', exists_eq_right, exists_eq_right', exists_eq', exists_eq, true_and, and_true, and_self, false_and, and_false, exists_and_left, exists_and_right, exists_const, Option.some.injEq, Option.map_some, Option.map_none, Sl.is.injEq, Sl.own.injEq, D.py.injEq, D.ex.injEq, D.rf.injEq, PyData.int.injEq, PyData.bool.injEq, PyData.str.injEq, PyData.list.injEq, PyData.tuple.injEq, List.cons.injEq, if_true, if_false, eq_self, Bool.false_eq_true, Bool.true_eq_false, Bool.not_true, Bool.not_false, Bool.not_not, List.getElem?_cons_zero, List.getElem?_cons_succ, List.set_cons_zero, List.set_cons_succ, List.length_cons, List.length_nil, List.cons_append, List.nil_append, reduceCtorEq, List.replicate_zero, List.replicate_succ, Nat.reduceAdd, Nat.reduceSub, decide_true, decide_false, intsOf_map', blsOf_map', strsOf_map', map_int_inj, map_str_inj, map_bool_inj, map_itD_inj, itD_iff, sh_int, sh_bool, sh_none, sh_itD, sh_nil, sh_ints, sh_its, eqv_int, eqv_bool, eqv_str, eqv_itD, eqv_ints, eqv_strs, eqv_its, eqv_nil, Nat.zero_le, and_assoc, Bool.false_and] at nx ⊢
      exact nx _ _ _ rfl
    | false =>
      rw [he] at nx
      simp only [wVar, wOwn, wC, wOp, wT, wChain, wAndT, wOrT, wNotT, wAnd, wOr, wNot, wIf, wNil, wCons, wDisp, wCall, wCall0, wNoPart, wPart, wSl, wRevL, wBlt, wItL, wItT, wItS, wRg1, wRg2, wEnum, wZip, wLR, wLR2, wYes, wM1, wFmt, wJoined, wIsi, wNeg, wNewD, wOwnCat, wPar2, wNext, wSeq, wNever, wSet, wNew, wAug, wExtend, wAppend, wPut, wFrz, wRet, wRetOwn, wRetN, wDrop, wIfS, wgName, wgTup, wUnp, wRaise, bodyEN, wLc, wFor, wSortSet, e_add_i, e_add_s, e_add_l, e_add_t, e_kadd_i, e_kadd_s, e_kadd_l, e_kadd_t, e_sub, e_kt, e_mul_i, e_mul_l, e_kmul_i, e_kmul_l, e_div, e_kdiv, e_mod, e_kmod, e_cmp, e_eq, e_ne, e_keq, e_is_n, e_is_b, e_isn_n, e_isn_b, e_non_n, e_non_l, e_non_t, e_non_i, e_non_s, e_non_b, e_non_x, e_in_l, e_in_t, e_ni_l, e_ni_t, e_kin_l, e_kin_t, e_kin_s, e_ix_l, e_ix_t, e_ix_s, e_kix_l, e_kix_t, e_kix_s, e_sl_l, e_sl_t, e_sl_s, e_len_l, e_len_t, e_len_s, e_klen_l, e_klen_t, e_klen_s, e_kany, e_list_l, e_list_t, e_tup_l, e_tup_t, e_sum, e_max, e_max2, e_min, e_kne, e_kne2, e_all, e_str, e_kstr, e_int, e_kint, e_split, e_ksplit, e_part, e_kpart, e_join, e_kjoin, e_pys0, e_pys1, e_sa0, e_sa1, e_wipe0, e_wipe1, e_js0, e_js1, e_ty_i, e_ty_b, e_ty_n, e_ty_s, e_ty_l, e_ty_t, e_isi_ii, e_isi_ib, e_isi_in, e_isi_is, e_isi_il, e_isi_it, e_isi_bi, e_isi_bb, e_isi_bn, e_isi_bs, e_isi_bl, e_isi_bt, e_isi_li, e_isi_lb, e_isi_ln, e_isi_ls, e_isi_ll, e_isi_lt, e_isi_ti, e_isi_tb, e_isi_tn, e_isi_ts, e_isi_tl, e_isi_tt, e_isi_si, e_isi_sb, e_isi_sn, e_isi_ss, e_isi_sl, e_isi_st, e_up, e_st0, e_st1, e_st2, exists_eq_left, exists_eq_left', exists_eq_right, exists_eq_right', exists_eq', exists_eq, true_and, and_true, and_self, false_and, and_false, exists_and_left, exists_and_right, exists_const, Option.some.injEq, Option.map_some, Option.map_none, Sl.is.injEq, Sl.own.injEq, D.py.injEq, D.ex.injEq, D.rf.injEq, PyData.int.injEq, PyData.bool.injEq, PyData.str.injEq, PyData.list.injEq, PyData.tuple.injEq, List.cons.injEq, if_true, if_false, eq_self, Bool.false_eq_true, Bool.true_eq_false, Bool.not_true, Bool.not_false, Bool.not_not, List.getElem?_cons_zero, List.getElem?_cons_succ, List.set_cons_zero, List.set_cons_succ, List.length_cons, List.length_nil, List.cons_append, List.nil_append, reduceCtorEq, List.replicate_zero, List.replicate_succ, Nat.reduceAdd, Nat.reduceSub, decide_true, decide_false, intsOf_map', blsOf_map', strsOf_map', map_int_inj, map_str_inj, map_bool_inj, map_itD_inj, itD_iff, sh_int, sh_bool, sh_none, sh_itD, sh_nil, sh_ints, sh_its, eqv_int, eqv_bool, eqv_str, eqv_itD, eqv_ints, eqv_strs, eqv_its, eqv_nil, Nat.zero_le, and_assoc, Bool.true_and, sp__law_meant, al, ll] at nx ⊢
      by_cases hq : setOf (its.take i ++ its.drop (i + 1)) = setOf its
      · simp only [hq, wVar, wOwn, wC, wOp, wT, wChain, wAndT, wOrT, wNotT, wAnd, wOr, wNot, wIf, wNil, wCons, wDisp, wCall, wCall0, wNoPart, wPart, wSl, wRevL, wBlt, wItL, wItT, wItS, wRg1, wRg2, wEnum, wZip, wLR, wLR2, wYes, wM1, wFmt, wJoined, wIsi, wNeg, wNewD, wOwnCat, wPar2, wNext, wSeq, wNever, wSet, wNew, wAug, wExtend, wAppend, wPut, wFrz, wRet, wRetOwn, wRetN, wDrop, wIfS, wgName, wgTup, wUnp, wRaise, bodyEN, wLc, wFor, wSortSet, e_add_i, e_add_s, e_add_l, e_add_t, e_kadd_i, e_kadd_s, e_kadd_l, e_kadd_t, e_sub, e_kt, e_mul_i, e_mul_l, e_kmul_i, e_kmul_l, e_div, e_kdiv, e_mod, e_kmod, e_cmp, e_eq, e_ne, e_keq, e_is_n, e_is_b, e_isn_n, e_isn_b, e_non_n, e_non_l, e_non_t, e_non_i, e_non_s, e_non_b, e_non_x, e_in_l, e_in_t, e_ni_l, e_ni_t, e_kin_l, e_kin_t, e_kin_s, e_ix_l, e_ix_t, e_ix_s, e_kix_l, e_kix_t, e_kix_s, e_sl_l, e_sl_t, e_sl_s, e_len_l, e_len_t, e_len_s, e_klen_l, e_klen_t, e_klen_s, e_kany, e_list_l, e_list_t, e_tup_l, e_tup_t, e_sum, e_max, e_max2, e_min, e_kne, e_kne2, e_all, e_str, e_kstr, e_int, e_kint, e_split, e_ksplit, e_part, e_kpart, e_join, e_kjoin, e_pys0, e_pys1, e_sa0, e_sa1, e_wipe0, e_wipe1, e_js0, e_js1, e_ty_i, e_ty_b, e_ty_n, e_ty_s, e_ty_l, e_ty_t, e_isi_ii, e_isi_ib, e_isi_in, e_isi_is, e_isi_il, e_isi_it, e_isi_bi, e_isi_bb, e_isi_bn, e_isi_bs, e_isi_bl, e_isi_bt, e_isi_li, e_isi_lb, e_isi_ln, e_isi_ls, e_isi_ll, e_isi_lt, e_isi_ti, e_isi_tb, e_isi_tn, e_isi_ts, e_isi_tl, e_isi_tt, e_isi_si, e_isi_sb, e_isi_sn, e_isi_ss, e_isi_sl, e_isi_st, e_up, e_st0, e_st1, e_st2, exists_eq_left, exists_eq_left', exists_eq_right, exists_eq_right', exists_eq', exists_eq, true_and, and_true, and_self, false_and, and_false, exists_and_left, exists_and_right, exists_const, Option.some.injEq, Option.map_some, Option.map_none, Sl.is.injEq, Sl.own.injEq, D.py.injEq, D.ex.injEq, D.rf.injEq, PyData.int.injEq, PyData.bool.injEq, PyData.str.injEq, PyData.list.injEq, PyData.tuple.injEq, List.cons.injEq, if_true, if_false, eq_self, Bool.false_eq_true, Bool.true_eq_false, Bool.not_true, Bool.not_false, Bool.not_not, List.getElem?_cons_zero, List.getElem?_cons_succ, List.set_cons_zero, List.set_cons_succ, List.length_cons, List.length_nil, List.cons_append, List.nil_append, reduceCtorEq, List.replicate_zero, List.replicate_succ, Nat.reduceAdd, Nat.reduceSub, decide_true, decide_false, intsOf_map', blsOf_map', strsOf_map', map_int_inj, map_str_inj, map_bool_inj, map_itD_inj, itD_iff, sh_int, sh_bool, sh_none, sh_itD, sh_nil, sh_ints, sh_its, eqv_int, eqv_bool, eqv_str, eqv_itD, eqv_ints, eqv_strs, eqv_its, eqv_nil, Nat.zero_le, and_assoc] at nx ⊢
        refine ⟨?_, nx _ _ _ (by rw [List.map_append (f := PyData.int) (l₁ := needTo its i)]; rfl)⟩
        rw [List.length_map]
        have := le_line (n := its.length) (by omega)
        omega
      · simp only [hq, wVar, wOwn, wC, wOp, wT, wChain, wAndT, wOrT, wNotT, wAnd, wOr, wNot, wIf, wNil, wCons, wDisp, wCall, wCall0, wNoPart, wPart, wSl, wRevL, wBlt, wItL, wItT, wItS, wRg1, wRg2, wEnum, wZip, wLR, wLR2, wYes, wM1, wFmt, wJoined, wIsi, wNeg, wNewD, wOwnCat, wPar2, wNext, wSeq, wNever, wSet, wNew, wAug, wExtend, wAppend, wPut, wFrz, wRet, wRetOwn, wRetN, wDrop, wIfS, wgName, wgTup, wUnp, wRaise, bodyEN, wLc, wFor, wSortSet, e_add_i, e_add_s, e_add_l, e_add_t, e_kadd_i, e_kadd_s, e_kadd_l, e_kadd_t, e_sub, e_kt, e_mul_i, e_mul_l, e_kmul_i, e_kmul_l, e_div, e_kdiv, e_mod, e_kmod, e_cmp, e_eq, e_ne, e_keq, e_is_n, e_is_b, e_isn_n, e_isn_b, e_non_n, e_non_l, e_non_t, e_non_i, e_non_s, e_non_b, e_non_x, e_in_l, e_in_t, e_ni_l, e_ni_t, e_kin_l, e_kin_t, e_kin_s, e_ix_l, e_ix_t, e_ix_s, e_kix_l, e_kix_t, e_kix_s, e_sl_l, e_sl_t, e_sl_s, e_len_l, e_len_t, e_len_s, e_klen_l, e_klen_t, e_klen_s, e_kany, e_list_l, e_list_t, e_tup_l, e_tup_t, e_sum, e_max, e_max2, e_min, e_kne, e_kne2, e_all, e_str, e_kstr, e_int, e_kint, e_split, e_ksplit, e_part, e_kpart, e_join, e_kjoin, e_pys0, e_pys1, e_sa0, e_sa1, e_wipe0, e_wipe1, e_js0, e_js1, e_ty_i, e_ty_b, e_ty_n, e_ty_s, e_ty_l, e_ty_t, e_isi_ii, e_isi_ib, e_isi_in, e_isi_is, e_isi_il, e_isi_it, e_isi_bi, e_isi_bb, e_isi_bn, e_isi_bs, e_isi_bl, e_isi_bt, e_isi_li, e_isi_lb, e_isi_ln, e_isi_ls, e_isi_ll, e_isi_lt, e_isi_ti, e_isi_tb, e_isi_tn, e_isi_ts, e_isi_tl, e_isi_tt, e_isi_si, e_isi_sb, e_isi_sn, e_isi_ss, e_isi_sl, e_isi_st, e_up, e_st0, e_st1, e_st2, exists_eq_left, exists_eq_left', exists_eq_right, exists_eq_right', exists_eq', exists_eq, true_and, and_true, and_self, false_and, and_false, exists_and_left, exists_and_right, exists_const, Option.some.injEq, Option.map_some, Option.map_none, Sl.is.injEq, Sl.own.injEq, D.py.injEq, D.ex.injEq, D.rf.injEq, PyData.int.injEq, PyData.bool.injEq, PyData.str.injEq, PyData.list.injEq, PyData.tuple.injEq, List.cons.injEq, if_true, if_false, eq_self, Bool.false_eq_true, Bool.true_eq_false, Bool.not_true, Bool.not_false, Bool.not_not, List.getElem?_cons_zero, List.getElem?_cons_succ, List.set_cons_zero, List.set_cons_succ, List.length_cons, List.length_nil, List.cons_append, List.nil_append, reduceCtorEq, List.replicate_zero, List.replicate_succ, Nat.reduceAdd, Nat.reduceSub, decide_true, decide_false, intsOf_map', blsOf_map', strsOf_map', map_int_inj, map_str_inj, map_bool_inj, map_itD_inj, itD_iff, sh_int, sh_bool, sh_none, sh_itD, sh_nil, sh_ints, sh_its, eqv_int, eqv_bool, eqv_str, eqv_itD, eqv_ints, eqv_strs, eqv_its, eqv_nil, Nat.zero_le, and_assoc] at nx ⊢
        exact nx _ _ _ rfl
  · obtain ⟨rfl, s6, s11, rfl⟩ := h
    have hnd : needlessOf its = needTo its its.length := rfl
    simp only [wVar, wOwn, wC, wOp, wT, wChain, wAndT, wOrT, wNotT, wAnd, wOr, wNot, wIf, wNil, wCons, wDisp, wCall, wCall0, wNoPart, wPart, wSl, wRevL, wBlt, wItL, wItT, wItS, wRg1, wRg2, wEnum, wZip, wLR, wLR2, wYes, wM1, wFmt, wJoined, wIsi, wNeg, wNewD, wOwnCat, wPar2, wNext, wSeq, wNever, wSet, wNew, wAug, wExtend, wAppend, wPut, wFrz, wRet, wRetOwn, wRetN, wDrop, wIfS, wgName, wgTup, wUnp, wRaise, bodyEN, wLc, wFor, wSortSet, e_add_i, e_add_s, e_add_l, e_add_t, e_kadd_i, e_kadd_s, e_kadd_l, e_kadd_t, e_sub, e_kt, e_mul_i, e_mul_l, e_kmul_i, e_kmul_l, e_div, e_kdiv, e_mod, e_kmod, e_cmp, e_eq, e_ne, e_keq, e_is_n, e_is_b, e_isn_n, e_isn_b, e_non_n, e_non_l, e_non_t, e_non_i, e_non_s, e_non_b, e_non_x, e_in_l, e_in_t, e_ni_l, e_ni_t, e_kin_l, e_kin_t, e_kin_s, e_ix_l, e_ix_t, e_ix_s, e_kix_l, e_kix_t, e_kix_s, e_sl_l, e_sl_t, e_sl_s, e_len_l, e_len_t, e_len_s, e_klen_l, e_klen_t, e_klen_s, e_kany, e_list_l, e_list_t, e_tup_l, e_tup_t, e_sum, e_max, e_max2, e_min, e_kne, e_kne2, e_all, e_str, e_kstr, e_int, e_kint, e_split, e_ksplit, e_part, e_kpart, e_join, e_kjoin, e_pys0, e_pys1, e_sa0, e_sa1, e_wipe0, e_wipe1, e_js0, e_js1, e_ty_i, e_ty_b, e_ty_n, e_ty_s, e_ty_l, e_ty_t, e_isi_ii, e_isi_ib, e_isi_in, e_isi_is, e_isi_il, e_isi_it, e_isi_bi, e_isi_bb, e_isi_bn, e_isi_bs, e_isi_bl, e_isi_bt, e_isi_li, e_isi_lb, e_isi_ln, e_isi_ls, e_isi_ll, e_isi_lt, e_isi_ti, e_isi_tb, e_isi_tn, e_isi_ts, e_isi_tl, e_isi_tt, e_isi_si, e_isi_sb, e_isi_sn, e_isi_ss, e_isi_sl, e_isi_st, e_up, e_st0, e_st1, e_st2, exists_eq_left, exists_eq_left', exists_eq_right, exists_eq_right', exists_eq', exists_eq, true_and, and_true, and_self, false_and, and_false, exists_and_left, exists_and_right, exists_const, Option.some.injEq, Option.map_some, Option.map_none, Sl.is.injEq, Sl.own.injEq, D.py.injEq, D.ex.injEq, D.rf.injEq, PyData.int.injEq, PyData.bool.injEq, PyData.str.injEq, PyData.list.injEq, PyData.tuple.injEq, List.cons.injEq, if_true, if_false, eq_self, Bool.false_eq_true, Bool.true_eq_false, Bool.not_true, Bool.not_false, Bool.not_not, List.getElem?_cons_zero, List.getElem?_cons_succ, List.set_cons_zero, List.set_cons_succ, List.length_cons, List.length_nil, List.cons_append, List.nil_append, reduceCtorEq, List.replicate_zero, List.replicate_succ, Nat.reduceAdd, Nat.reduceSub, decide_true, decide_false, intsOf_map', blsOf_map', strsOf_map', map_int_inj, map_str_inj, map_bool_inj, map_itD_inj, itD_iff, sh_int, sh_bool, sh_none, sh_itD, sh_nil, sh_ints, sh_its, eqv_int, eqv_bool, eqv_str, eqv_itD, eqv_ints, eqv_strs, eqv_its, eqv_nil, Nat.zero_le, and_assoc, sp_needless, T.it, T.tf, T.l4, hnd]
    refine ⟨by omega, by omega, fun jts ok2 ne2 hl2 => ?_⟩
    have T2 := txts ok2 ne2 (by omega)
    have t2kj := T2.kj
    refine lc_w T2 ?_
    simp only [wVar, wOwn, wC, wOp, wT, wChain, wAndT, wOrT, wNotT, wAnd, wOr, wNot, wIf, wNil, wCons, wDisp, wCall, wCall0, wNoPart, wPart, wSl, wRevL, wBlt, wItL, wItT, wItS, wRg1, wRg2, wEnum, wZip, wLR, wLR2, wYes, wM1, wFmt, wJoined, wIsi, wNeg, wNewD, wOwnCat, wPar2, wNext, wSeq, wNever, wSet, wNew, wAug, wExtend, wAppend, wPut, wFrz, wRet, wRetOwn, wRetN, wDrop, wIfS, wgName, wgTup, wUnp, wRaise, bodyEN, wLc, wFor, wSortSet, e_add_i, e_add_s, e_add_l, e_add_t, e_kadd_i, e_kadd_s, e_kadd_l, e_kadd_t, e_sub, e_kt, e_mul_i, e_mul_l, e_kmul_i, e_kmul_l, e_div, e_kdiv, e_mod, e_kmod, e_cmp, e_eq, e_ne, e_keq, e_is_n, e_is_b, e_isn_n, e_isn_b, e_non_n, e_non_l, e_non_t, e_non_i, e_non_s, e_non_b, e_non_x, e_in_l, e_in_t, e_ni_l, e_ni_t, e_kin_l, e_kin_t, e_kin_s, e_ix_l, e_ix_t, e_ix_s, e_kix_l, e_kix_t, e_kix_s, e_sl_l, e_sl_t, e_sl_s, e_len_l, e_len_t, e_len_s, e_klen_l, e_klen_t, e_klen_s, e_kany, e_list_l, e_list_t, e_tup_l, e_tup_t, e_sum, e_max, e_max2, e_min, e_kne, e_kne2, e_all, e_str, e_kstr, e_int, e_kint, e_split, e_ksplit, e_part, e_kpart, e_join, e_kjoin, e_pys0, e_pys1, e_sa0, e_sa1, e_wipe0, e_wipe1, e_js0, e_js1, e_ty_i, e_ty_b, e_ty_n, e_ty_s, e_ty_l, e_ty_t, e_isi_ii, e_isi_ib, e_isi_in, e_isi_is, e_isi_il, e_isi_it, e_isi_bi, e_isi_bb, e_isi_bn, e_isi_bs, e_isi_bl, e_isi_bt, e_isi_li, e_isi_lb, e_isi_ln, e_isi_ls, e_isi_ll, e_isi_lt, e_isi_ti, e_isi_tb, e_isi_tn, e_isi_ts, e_isi_tl, e_isi_tt, e_isi_si, e_isi_sb, e_isi_sn, e_isi_ss, e_isi_sl, e_isi_st, e_up, e_st0, e_st1, e_st2, exists_eq_left, exists_eq_left', exists_eq_right, exists_eq_right', exists_eq', exists_eq, true_and, and_true, and_self, false_and, and_false, exists_and_left, exists_and_right, exists_const, Option.some.injEq, Option.map_some, Option.map_none, Sl.is.injEq, Sl.own.injEq, D.py.injEq, D.ex.injEq, D.rf.injEq, PyData.int.injEq, PyData.bool.injEq, PyData.str.injEq, PyData.list.injEq, PyData.tuple.injEq, List.cons.injEq, if_true, if_false, eq_self, Bool.false_eq_true, Bool.true_eq_false, Bool.not_true, Bool.not_false, Bool.not_not, List.getElem?_cons_zero, List.getElem?_cons_succ, List.set_cons_zero, List.set_cons_succ, List.length_cons, List.length_nil, List.cons_append, List.nil_append, reduceCtorEq, List.replicate_zero, List.replicate_succ, Nat.reduceAdd, Nat.reduceSub, decide_true, decide_false, intsOf_map', blsOf_map', strsOf_map', map_int_inj, map_str_inj, map_bool_inj, map_itD_inj, itD_iff, sh_int, sh_bool, sh_none, sh_itD, sh_nil, sh_ints, sh_its, eqv_int, eqv_bool, eqv_str, eqv_itD, eqv_ints, eqv_strs, eqv_its, eqv_nil, Nat.zero_le, and_assoc, t2kj, join_fold, sp_mean_same, T.it, T.tf, T.l4, T2.it, T2.tf, T2.l4, sp__law_meant, T2.ok, sp__law_true]
    rw [if_neg (by simp; exact eq_comm)]
    obtain ⟨o1, o2⟩ := ones_all (setOf its) hm
    have one : ((setOf its).map oneI) ≠ [] := fun e => mne (List.map_eq_nil_iff.mp e)
    have TO := txts o1 one (by rw [List.length_map]; have := subs_len hm; omega)
    refine lcGo_map2 PyData.int (fun k => .str (textOf (oneI k))) _ (fun k hk T' t' => ?_) (le_line (by have := subs_len hm; omega)) ?_
    · rw [textOf_one] at t'
      simp only [wVar, wOwn, wC, wOp, wT, wChain, wAndT, wOrT, wNotT, wAnd, wOr, wNot, wIf, wNil, wCons, wDisp, wCall, wCall0, wNoPart, wPart, wSl, wRevL, wBlt, wItL, wItT, wItS, wRg1, wRg2, wEnum, wZip, wLR, wLR2, wYes, wM1, wFmt, wJoined, wIsi, wNeg, wNewD, wOwnCat, wPar2, wNext, wSeq, wNever, wSet, wNew, wAug, wExtend, wAppend, wPut, wFrz, wRet, wRetOwn, wRetN, wDrop, wIfS, wgName, wgTup, wUnp, wRaise, bodyEN, wLc, wFor, wSortSet, e_add_i, e_add_s, e_add_l, e_add_t, e_kadd_i, e_kadd_s, e_kadd_l, e_kadd_t, e_sub, e_kt, e_mul_i, e_mul_l, e_kmul_i, e_kmul_l, e_div, e_kdiv, e_mod, e_kmod, e_cmp, e_eq, e_ne, e_keq, e_is_n, e_is_b, e_isn_n, e_isn_b, e_non_n, e_non_l, e_non_t, e_non_i, e_non_s, e_non_b, e_non_x, e_in_l, e_in_t, e_ni_l, e_ni_t, e_kin_l, e_kin_t, e_kin_s, e_ix_l, e_ix_t, e_ix_s, e_kix_l, e_kix_t, e_kix_s, e_sl_l, e_sl_t, e_sl_s, e_len_l, e_len_t, e_len_s, e_klen_l, e_klen_t, e_klen_s, e_kany, e_list_l, e_list_t, e_tup_l, e_tup_t, e_sum, e_max, e_max2, e_min, e_kne, e_kne2, e_all, e_str, e_kstr, e_int, e_kint, e_split, e_ksplit, e_part, e_kpart, e_join, e_kjoin, e_pys0, e_pys1, e_sa0, e_sa1, e_wipe0, e_wipe1, e_js0, e_js1, e_ty_i, e_ty_b, e_ty_n, e_ty_s, e_ty_l, e_ty_t, e_isi_ii, e_isi_ib, e_isi_in, e_isi_is, e_isi_il, e_isi_it, e_isi_bi, e_isi_bb, e_isi_bn, e_isi_bs, e_isi_bl, e_isi_bt, e_isi_li, e_isi_lb, e_isi_ln, e_isi_ls, e_isi_ll, e_isi_lt, e_isi_ti, e_isi_tb, e_isi_tn, e_isi_ts, e_isi_tl, e_isi_tt, e_isi_si, e_isi_sb, e_isi_sn, e_isi_ss, e_isi_sl, e_isi_st, e_up, e_st0, e_st1, e_st2, exists_eq_left, exists_eq_left', exists_eq_right, exists_eq_right', exists_eq', exists_eq, true_and, and_true, and_self, false_and, and_false, exists_and_left, exists_and_right, exists_const, Option.some.injEq, Option.map_some, Option.map_none, Sl.is.injEq, Sl.own.injEq, D.py.injEq, D.ex.injEq, D.rf.injEq, PyData.int.injEq, PyData.bool.injEq, PyData.str.injEq, PyData.list.injEq, PyData.tuple.injEq, List.cons.injEq, if_true, if_false, eq_self, Bool.false_eq_true, Bool.true_eq_false, Bool.not_true, Bool.not_false, Bool.not_not, List.getElem?_cons_zero, List.getElem?_cons_succ, List.set_cons_zero, List.set_cons_succ, List.length_cons, List.length_nil, List.cons_append, List.nil_append, reduceCtorEq, List.replicate_zero, List.replicate_succ, Nat.reduceAdd, Nat.reduceSub, decide_true, decide_false, intsOf_map', blsOf_map', strsOf_map', map_int_inj, map_str_inj, map_bool_inj, map_itD_inj, itD_iff, sh_int, sh_bool, sh_none, sh_itD, sh_nil, sh_ints, sh_its, eqv_int, eqv_bool, eqv_str, eqv_itD, eqv_ints, eqv_strs, eqv_its, eqv_nil, Nat.zero_le, and_assoc]
      exact ⟨(log2_ten k (subs_ten hm hk)).1, t'⟩
    have eo : ((setOf its).map fun k => PyData.str (textOf (oneI k))) = (((setOf its).map oneI).map textOf).map .str := by simp
    rw [eo]
    have tokj := TO.kj
    have l4o := TO.l4
    simp only [wVar, wOwn, wC, wOp, wT, wChain, wAndT, wOrT, wNotT, wAnd, wOr, wNot, wIf, wNil, wCons, wDisp, wCall, wCall0, wNoPart, wPart, wSl, wRevL, wBlt, wItL, wItT, wItS, wRg1, wRg2, wEnum, wZip, wLR, wLR2, wYes, wM1, wFmt, wJoined, wIsi, wNeg, wNewD, wOwnCat, wPar2, wNext, wSeq, wNever, wSet, wNew, wAug, wExtend, wAppend, wPut, wFrz, wRet, wRetOwn, wRetN, wDrop, wIfS, wgName, wgTup, wUnp, wRaise, bodyEN, wLc, wFor, wSortSet, e_add_i, e_add_s, e_add_l, e_add_t, e_kadd_i, e_kadd_s, e_kadd_l, e_kadd_t, e_sub, e_kt, e_mul_i, e_mul_l, e_kmul_i, e_kmul_l, e_div, e_kdiv, e_mod, e_kmod, e_cmp, e_eq, e_ne, e_keq, e_is_n, e_is_b, e_isn_n, e_isn_b, e_non_n, e_non_l, e_non_t, e_non_i, e_non_s, e_non_b, e_non_x, e_in_l, e_in_t, e_ni_l, e_ni_t, e_kin_l, e_kin_t, e_kin_s, e_ix_l, e_ix_t, e_ix_s, e_kix_l, e_kix_t, e_kix_s, e_sl_l, e_sl_t, e_sl_s, e_len_l, e_len_t, e_len_s, e_klen_l, e_klen_t, e_klen_s, e_kany, e_list_l, e_list_t, e_tup_l, e_tup_t, e_sum, e_max, e_max2, e_min, e_kne, e_kne2, e_all, e_str, e_kstr, e_int, e_kint, e_split, e_ksplit, e_part, e_kpart, e_join, e_kjoin, e_pys0, e_pys1, e_sa0, e_sa1, e_wipe0, e_wipe1, e_js0, e_js1, e_ty_i, e_ty_b, e_ty_n, e_ty_s, e_ty_l, e_ty_t, e_isi_ii, e_isi_ib, e_isi_in, e_isi_is, e_isi_il, e_isi_it, e_isi_bi, e_isi_bb, e_isi_bn, e_isi_bs, e_isi_bl, e_isi_bt, e_isi_li, e_isi_lb, e_isi_ln, e_isi_ls, e_isi_ll, e_isi_lt, e_isi_ti, e_isi_tb, e_isi_tn, e_isi_ts, e_isi_tl, e_isi_tt, e_isi_si, e_isi_sb, e_isi_sn, e_isi_ss, e_isi_sl, e_isi_st, e_up, e_st0, e_st1, e_st2, exists_eq_left, exists_eq_left', exists_eq_right, exists_eq_right', exists_eq', exists_eq, true_and, and_true, and_self, false_and, and_false, exists_and_left, exists_and_right, exists_const, Option.some.injEq, Option.map_some, Option.map_none, Sl.is.injEq, Sl.own.injEq, D.py.injEq, D.ex.injEq, D.rf.injEq, PyData.int.injEq, PyData.bool.injEq, PyData.str.injEq, PyData.list.injEq, PyData.tuple.injEq, List.cons.injEq, if_true, if_false, eq_self, Bool.false_eq_true, Bool.true_eq_false, Bool.not_true, Bool.not_false, Bool.not_not, List.getElem?_cons_zero, List.getElem?_cons_succ, List.set_cons_zero, List.set_cons_succ, List.length_cons, List.length_nil, List.cons_append, List.nil_append, reduceCtorEq, List.replicate_zero, List.replicate_succ, Nat.reduceAdd, Nat.reduceSub, decide_true, decide_false, intsOf_map', blsOf_map', strsOf_map', map_int_inj, map_str_inj, map_bool_inj, map_itD_inj, itD_iff, sh_int, sh_bool, sh_none, sh_itD, sh_nil, sh_ints, sh_its, eqv_int, eqv_bool, eqv_str, eqv_itD, eqv_ints, eqv_strs, eqv_its, eqv_nil, Nat.zero_le, and_assoc, tokj, join_fold, TO.it, TO.tf, l4o, o2, sp__law_items]
    refine lcGo_map2 itD (fun q => .str (textOf q)) _ (fun q hq T' t' => ?_) (by decide +kernel) ?_
    · simp only [wVar, wOwn, wC, wOp, wT, wChain, wAndT, wOrT, wNotT, wAnd, wOr, wNot, wIf, wNil, wCons, wDisp, wCall, wCall0, wNoPart, wPart, wSl, wRevL, wBlt, wItL, wItT, wItS, wRg1, wRg2, wEnum, wZip, wLR, wLR2, wYes, wM1, wFmt, wJoined, wIsi, wNeg, wNewD, wOwnCat, wPar2, wNext, wSeq, wNever, wSet, wNew, wAug, wExtend, wAppend, wPut, wFrz, wRet, wRetOwn, wRetN, wDrop, wIfS, wgName, wgTup, wUnp, wRaise, bodyEN, wLc, wFor, wSortSet, e_add_i, e_add_s, e_add_l, e_add_t, e_kadd_i, e_kadd_s, e_kadd_l, e_kadd_t, e_sub, e_kt, e_mul_i, e_mul_l, e_kmul_i, e_kmul_l, e_div, e_kdiv, e_mod, e_kmod, e_cmp, e_eq, e_ne, e_keq, e_is_n, e_is_b, e_isn_n, e_isn_b, e_non_n, e_non_l, e_non_t, e_non_i, e_non_s, e_non_b, e_non_x, e_in_l, e_in_t, e_ni_l, e_ni_t, e_kin_l, e_kin_t, e_kin_s, e_ix_l, e_ix_t, e_ix_s, e_kix_l, e_kix_t, e_kix_s, e_sl_l, e_sl_t, e_sl_s, e_len_l, e_len_t, e_len_s, e_klen_l, e_klen_t, e_klen_s, e_kany, e_list_l, e_list_t, e_tup_l, e_tup_t, e_sum, e_max, e_max2, e_min, e_kne, e_kne2, e_all, e_str, e_kstr, e_int, e_kint, e_split, e_ksplit, e_part, e_kpart, e_join, e_kjoin, e_pys0, e_pys1, e_sa0, e_sa1, e_wipe0, e_wipe1, e_js0, e_js1, e_ty_i, e_ty_b, e_ty_n, e_ty_s, e_ty_l, e_ty_t, e_isi_ii, e_isi_ib, e_isi_in, e_isi_is, e_isi_il, e_isi_it, e_isi_bi, e_isi_bb, e_isi_bn, e_isi_bs, e_isi_bl, e_isi_bt, e_isi_li, e_isi_lb, e_isi_ln, e_isi_ls, e_isi_ll, e_isi_lt, e_isi_ti, e_isi_tb, e_isi_tn, e_isi_ts, e_isi_tl, e_isi_tt, e_isi_si, e_isi_sb, e_isi_sn, e_isi_ss, e_isi_sl, e_isi_st, e_up, e_st0, e_st1, e_st2, exists_eq_left, exists_eq_left', exists_eq_right, exists_eq_right', exists_eq', exists_eq, true_and, and_true, and_self, false_and, and_false, exists_and_left, exists_and_right, exists_const, Option.some.injEq, Option.map_some, Option.map_none, Sl.is.injEq, Sl.own.injEq, D.py.injEq, D.ex.injEq, D.rf.injEq, PyData.int.injEq, PyData.bool.injEq, PyData.str.injEq, PyData.list.injEq, PyData.tuple.injEq, List.cons.injEq, if_true, if_false, eq_self, Bool.false_eq_true, Bool.true_eq_false, Bool.not_true, Bool.not_false, Bool.not_not, List.getElem?_cons_zero, List.getElem?_cons_succ, List.set_cons_zero, List.set_cons_succ, List.length_cons, List.length_nil, List.cons_append, List.nil_append, reduceCtorEq, List.replicate_zero, List.replicate_succ, Nat.reduceAdd, Nat.reduceSub, decide_true, decide_false, intsOf_map', blsOf_map', strsOf_map', map_int_inj, map_str_inj, map_bool_inj, map_itD_inj, itD_iff, sh_int, sh_bool, sh_none, sh_itD, sh_nil, sh_ints, sh_its, eqv_int, eqv_bool, eqv_str, eqv_itD, eqv_ints, eqv_strs, eqv_its, eqv_nil, Nat.zero_le, and_assoc, sp__law_word]
      exact ⟨q, rfl, rfl, rfl, item_mem.mpr hq, t'⟩
    have ew : (itemsAll.map fun q => PyData.str (textOf q)) = (itemsAll.map textOf).map .str := by simp
    rw [ew]
    refine ⟨by omega, by omega, ?_⟩
    have e8 : (8 : Int).toNat = 8 := rfl
    rw [e8]
    refine forGo_rg (fun i ρ θ => θ = .on a ∧ ∃ s6 s10 s11 s12 s13 s14 s15 : Sl, ρ = [.is (.rf s), .is (.rf a), .is (.py (.list (its.map itD))), .is (.py (.str (joinI its))), .is (.py (.list ((setOf its).map .int))), .is (.py (.list ((needTo its its.length).map .int))), s6, .is (.py (.list (jts.map itD))), .is (.py (.str (joinI jts))),
      .is (.py (.list ((itemsAll.map textOf).map .str))), s10, s11, s12, s13, s14, s15, .no, .no, .no]) (fun i hi ρ θ h R hR => ?_) (fun ρ θ h => ?_) ⟨rfl, _, _, _, _, _, _, _, rfl⟩
    · obtain ⟨rfl, s6, s10, s11, s12, s13, s14, s15, rfl⟩ := h
      have tl : TOk (joinI its) := T.tf
      have ll : ((joinI its).length ≤ sizeLine) = True := eq_true (le_line tl.2)
      have l8 : (8 ≤ sizeLine) = True := eq_true (by decide)
      simp only [wVar, wOwn, wC, wOp, wT, wChain, wAndT, wOrT, wNotT, wAnd, wOr, wNot, wIf, wNil, wCons, wDisp, wCall, wCall0, wNoPart, wPart, wSl, wRevL, wBlt, wItL, wItT, wItS, wRg1, wRg2, wEnum, wZip, wLR, wLR2, wYes, wM1, wFmt, wJoined, wIsi, wNeg, wNewD, wOwnCat, wPar2, wNext, wSeq, wNever, wSet, wNew, wAug, wExtend, wAppend, wPut, wFrz, wRet, wRetOwn, wRetN, wDrop, wIfS, wgName, wgTup, wUnp, wRaise, bodyEN, wLc, wFor, wSortSet, e_add_i, e_add_s, e_add_l, e_add_t, e_kadd_i, e_kadd_s, e_kadd_l, e_kadd_t, e_sub, e_kt, e_mul_i, e_mul_l, e_kmul_i, e_kmul_l, e_div, e_kdiv, e_mod, e_kmod, e_cmp, e_eq, e_ne, e_keq, e_is_n, e_is_b, e_isn_n, e_isn_b, e_non_n, e_non_l, e_non_t, e_non_i, e_non_s, e_non_b, e_non_x, e_in_l, e_in_t, e_ni_l, e_ni_t, e_kin_l, e_kin_t, e_kin_s, e_ix_l, e_ix_t, e_ix_s, e_kix_l, e_kix_t, e_kix_s, e_sl_l, e_sl_t, e_sl_s, e_len_l, e_len_t, e_len_s, e_klen_l, e_klen_t, e_klen_s, e_kany, e_list_l, e_list_t, e_tup_l, e_tup_t, e_sum, e_max, e_max2, e_min, e_kne, e_kne2, e_all, e_str, e_kstr, e_int, e_kint, e_split, e_ksplit, e_part, e_kpart, e_join, e_kjoin, e_pys0, e_pys1, e_sa0, e_sa1, e_wipe0, e_wipe1, e_js0, e_js1, e_ty_i, e_ty_b, e_ty_n, e_ty_s, e_ty_l, e_ty_t, e_isi_ii, e_isi_ib, e_isi_in, e_isi_is, e_isi_il, e_isi_it, e_isi_bi, e_isi_bb, e_isi_bn, e_isi_bs, e_isi_bl, e_isi_bt, e_isi_li, e_isi_lb, e_isi_ln, e_isi_ls, e_isi_ll, e_isi_lt, e_isi_ti, e_isi_tb, e_isi_tn, e_isi_ts, e_isi_tl, e_isi_tt, e_isi_si, e_isi_sb, e_isi_sn, e_isi_ss, e_isi_sl, e_isi_st, e_up, e_st0, e_st1, e_st2, exists_eq_left, exists_eq_left', exists_eq_right, exists_eq_right', exists_eq', exists_eq, true_and, and_true, and_self, false_and, and_false, exists_and_left, exists_and_right, exists_const, Option.some.injEq, Option.map_some, Option.map_none, Sl.is.injEq, Sl.own.injEq, D.py.injEq, D.ex.injEq, D.rf.injEq, PyData.int.injEq, PyData.bool.injEq, PyData.str.injEq, PyData.list.injEq, PyData.tuple.injEq, List.cons.injEq, if_true, if_false, eq_self, Bool.false_eq_true, Bool.true_eq_false, Bool.not_true, Bool.not_false, Bool.not_not, List.getElem?_cons_zero, List.getElem?_cons_succ, List.set_cons_zero, List.set_cons_succ, List.length_cons, List.length_nil, List.cons_append, List.nil_append, reduceCtorEq, List.replicate_zero, List.replicate_succ, Nat.reduceAdd, Nat.reduceSub, decide_true, decide_false, intsOf_map', blsOf_map', strsOf_map', map_int_inj, map_str_inj, map_bool_inj, map_itD_inj, itD_iff, sh_int, sh_bool, sh_none, sh_itD, sh_nil, sh_ints, sh_its, eqv_int, eqv_bool, eqv_str, eqv_itD, eqv_ints, eqv_strs, eqv_its, eqv_nil, Nat.zero_le, and_assoc, ll, spd_draw, l8, spd_pick]
      have h63 : (joinI its).length ≤ 40 := by have := (join_bound ok).2; show (Txt.join "," (its.map textOf)).length ≤ 40; omega
      refine ⟨by omega, by omega, fun p p0 p1 => ⟨by simp, by simp, fun d hd => ?_⟩⟩
      obtain ⟨m, rfl, m1, m2⟩ : ∃ m : Str, d = .str m ∧ PyData.strOk m = true ∧ m.length ≤ 1 := by
        simp only [List.mem_cons, List.not_mem_nil, or_false] at hd
        rcases hd with rfl | rfl | rfl | rfl | rfl | rfl | rfl | rfl <;> exact ⟨_, rfl, by decide +kernel, by decide +kernel⟩
      have k1 := tok_cut tl none (some p)
      have k2 := tok_cut tl (some (p + 1)) none
      have k3 := tok_cut tl (some p) none
      have y1 := cutS_length (joinI its) none (some p)
      have y2 := cutS_length (joinI its) (some (p + 1)) none
      have y3 := cutS_length (joinI its) (some p) none
      have q1 : ((cutS (joinI its) none (some p)).length + m.length ≤ sizeLine) = True := eq_true (le_line' (by omega))
      have q2 : ((cutS (joinI its) none (some p)).length + m.length + (cutS (joinI its) (some (p + 1)) none).length ≤ sizeLine) = True := eq_true (le_line' (by omega))
      have q3 : ((cutS (joinI its) none (some p)).length + m.length + (cutS (joinI its) (some p) none).length ≤ sizeLine) = True := eq_true (le_line' (by omega))
      have l2 : (2 ≤ sizeLine) = True := eq_true (by decide)
      have l20 : (2 ≤ 1000000) = True := eq_true (by decide)
      simp only [wVar, wOwn, wC, wOp, wT, wChain, wAndT, wOrT, wNotT, wAnd, wOr, wNot, wIf, wNil, wCons, wDisp, wCall, wCall0, wNoPart, wPart, wSl, wRevL, wBlt, wItL, wItT, wItS, wRg1, wRg2, wEnum, wZip, wLR, wLR2, wYes, wM1, wFmt, wJoined, wIsi, wNeg, wNewD, wOwnCat, wPar2, wNext, wSeq, wNever, wSet, wNew, wAug, wExtend, wAppend, wPut, wFrz, wRet, wRetOwn, wRetN, wDrop, wIfS, wgName, wgTup, wUnp, wRaise, bodyEN, wLc, wFor, wSortSet, e_add_i, e_add_s, e_add_l, e_add_t, e_kadd_i, e_kadd_s, e_kadd_l, e_kadd_t, e_sub, e_kt, e_mul_i, e_mul_l, e_kmul_i, e_kmul_l, e_div, e_kdiv, e_mod, e_kmod, e_cmp, e_eq, e_ne, e_keq, e_is_n, e_is_b, e_isn_n, e_isn_b, e_non_n, e_non_l, e_non_t, e_non_i, e_non_s, e_non_b, e_non_x, e_in_l, e_in_t, e_ni_l, e_ni_t, e_kin_l, e_kin_t, e_kin_s, e_ix_l, e_ix_t, e_ix_s, e_kix_l, e_kix_t, e_kix_s, e_sl_l, e_sl_t, e_sl_s, e_len_l, e_len_t, e_len_s, e_klen_l, e_klen_t, e_klen_s, e_kany, e_list_l, e_list_t, e_tup_l, e_tup_t, e_sum, e_max, e_max2, e_min, e_kne, e_kne2, e_all, e_str, e_kstr, e_int, e_kint, e_split, e_ksplit, e_part, e_kpart, e_join, e_kjoin, e_pys0, e_pys1, e_sa0, e_sa1, e_wipe0, e_wipe1, e_js0, e_js1, e_ty_i, e_ty_b, e_ty_n, e_ty_s, e_ty_l, e_ty_t, e_isi_ii, e_isi_ib, e_isi_in, e_isi_is, e_isi_il, e_isi_it, e_isi_bi, e_isi_bb, e_isi_bn, e_isi_bs, e_isi_bl, e_isi_bt, e_isi_li, e_isi_lb, e_isi_ln, e_isi_ls, e_isi_ll, e_isi_lt, e_isi_ti, e_isi_tb, e_isi_tn, e_isi_ts, e_isi_tl, e_isi_tt, e_isi_si, e_isi_sb, e_isi_sn, e_isi_ss, e_isi_sl, e_isi_st, e_up, e_st0, e_st1, e_st2, exists_eq_left, exists_eq_left', exists_eq_right, exists_eq_right', exists_eq', exists_eq, true_and, and_true, and_self, false_and, and_false, exists_and_left, exists_and_right, exists_const, Option.some.injEq, Option.map_some, Option.map_none, Sl.is.injEq, Sl.own.injEq, D.py.injEq, D.ex.injEq, D.rf.injEq, PyData.int.injEq, PyData.bool.injEq, PyData.str.injEq, PyData.list.injEq, PyData.tuple.injEq, List.cons.injEq, if_true, if_false, eq_self, Bool.false_eq_true, Bool.true_eq_false, Bool.not_true, Bool.not_false, Bool.not_not, List.getElem?_cons_zero, List.getElem?_cons_succ, List.set_cons_zero, List.set_cons_succ, List.length_cons, List.length_nil, List.cons_append, List.nil_append, reduceCtorEq, List.replicate_zero, List.replicate_succ, Nat.reduceAdd, Nat.reduceSub, decide_true, decide_false, intsOf_map', blsOf_map', strsOf_map', map_int_inj, map_str_inj, map_bool_inj, map_itD_inj, itD_iff, sh_int, sh_bool, sh_none, sh_itD, sh_nil, sh_ints, sh_its, eqv_int, eqv_bool, eqv_str, eqv_itD, eqv_ints, eqv_strs, eqv_its, eqv_nil, Nat.zero_le, and_assoc, q1, q2, q3, PySem.Str.length_append, l2, l20, ne_eq, not_false_eq_true]
      intro d hd
      obtain ⟨c, rfl, tc⟩ : ∃ c : Str, d = .str c ∧ TOk c := by
        simp only [List.mem_cons, List.not_mem_nil, or_false] at hd
        rcases hd with rfl | rfl
        · exact ⟨_, rfl, strOk_app.mpr ⟨strOk_app.mpr ⟨k1.1, m1⟩, k2.1⟩, by rw [PySem.Str.length_append, PySem.Str.length_append]; omega⟩
        · exact ⟨_, rfl, strOk_app.mpr ⟨strOk_app.mpr ⟨k1.1, m1⟩, k3.1⟩, by rw [PySem.Str.length_append, PySem.Str.length_append]; omega⟩
      have tcl := tc.2
      have cl2 : (c.length + 2 ≤ sizeLine) = True := eq_true (le_line' (by omega))
      have hp := PyProof.Rows.fact_split c ","
      have cm : (("," : Str).length == 0) = false := by decide +kernel
      simp only [wVar, wOwn, wC, wOp, wT, wChain, wAndT, wOrT, wNotT, wAnd, wOr, wNot, wIf, wNil, wCons, wDisp, wCall, wCall0, wNoPart, wPart, wSl, wRevL, wBlt, wItL, wItT, wItS, wRg1, wRg2, wEnum, wZip, wLR, wLR2, wYes, wM1, wFmt, wJoined, wIsi, wNeg, wNewD, wOwnCat, wPar2, wNext, wSeq, wNever, wSet, wNew, wAug, wExtend, wAppend, wPut, wFrz, wRet, wRetOwn, wRetN, wDrop, wIfS, wgName, wgTup, wUnp, wRaise, bodyEN, wLc, wFor, wSortSet, e_add_i, e_add_s, e_add_l, e_add_t, e_kadd_i, e_kadd_s, e_kadd_l, e_kadd_t, e_sub, e_kt, e_mul_i, e_mul_l, e_kmul_i, e_kmul_l, e_div, e_kdiv, e_mod, e_kmod, e_cmp, e_eq, e_ne, e_keq, e_is_n, e_is_b, e_isn_n, e_isn_b, e_non_n, e_non_l, e_non_t, e_non_i, e_non_s, e_non_b, e_non_x, e_in_l, e_in_t, e_ni_l, e_ni_t, e_kin_l, e_kin_t, e_kin_s, e_ix_l, e_ix_t, e_ix_s, e_kix_l, e_kix_t, e_kix_s, e_sl_l, e_sl_t, e_sl_s, e_len_l, e_len_t, e_len_s, e_klen_l, e_klen_t, e_klen_s, e_kany, e_list_l, e_list_t, e_tup_l, e_tup_t, e_sum, e_max, e_max2, e_min, e_kne, e_kne2, e_all, e_str, e_kstr, e_int, e_kint, e_split, e_ksplit, e_part, e_kpart, e_join, e_kjoin, e_pys0, e_pys1, e_sa0, e_sa1, e_wipe0, e_wipe1, e_js0, e_js1, e_ty_i, e_ty_b, e_ty_n, e_ty_s, e_ty_l, e_ty_t, e_isi_ii, e_isi_ib, e_isi_in, e_isi_is, e_isi_il, e_isi_it, e_isi_bi, e_isi_bb, e_isi_bn, e_isi_bs, e_isi_bl, e_isi_bt, e_isi_li, e_isi_lb, e_isi_ln, e_isi_ls, e_isi_ll, e_isi_lt, e_isi_ti, e_isi_tb, e_isi_tn, e_isi_ts, e_isi_tl, e_isi_tt, e_isi_si, e_isi_sb, e_isi_sn, e_isi_ss, e_isi_sl, e_isi_st, e_up, e_st0, e_st1, e_st2, exists_eq_left, exists_eq_left', exists_eq_right, exists_eq_right', exists_eq', exists_eq, true_and, and_true, and_self, false_and, and_false, exists_and_left, exists_and_right, exists_const, Option.some.injEq, Option.map_some, Option.map_none, Sl.is.injEq, Sl.own.injEq, D.py.injEq, D.ex.injEq, D.rf.injEq, PyData.int.injEq, PyData.bool.injEq, PyData.str.injEq, PyData.list.injEq, PyData.tuple.injEq, List.cons.injEq, if_true, if_false, eq_self, Bool.false_eq_true, Bool.true_eq_false, Bool.not_true, Bool.not_false, Bool.not_not, List.getElem?_cons_zero, List.getElem?_cons_succ, List.set_cons_zero, List.set_cons_succ, List.length_cons, List.length_nil, List.cons_append, List.nil_append, reduceCtorEq, List.replicate_zero, List.replicate_succ, Nat.reduceAdd, Nat.reduceSub, decide_true, decide_false, intsOf_map', blsOf_map', strsOf_map', map_int_inj, map_str_inj, map_bool_inj, map_itD_inj, itD_iff, sh_int, sh_bool, sh_none, sh_itD, sh_nil, sh_ints, sh_its, eqv_int, eqv_bool, eqv_str, eqv_itD, eqv_ints, eqv_strs, eqv_its, eqv_nil, Nat.zero_le, and_assoc, cl2, cm, List.length_map]
      refine ⟨by omega, by omega, ?_⟩
      have eN2 : (((Txt.split c ",").length : Nat) : Int).toNat = (Txt.split c ",").length := by omega
      rw [eN2]
      unfold rgD
      refine lcGo_fm2 (fun i : Nat => .int (0 + (i : Int))) (faultAt (Txt.split c ",")) (fun i : Nat => .int (i : Int)) _ (fun i hi T' F t' => ?_) (by rw [List.length_range]; exact le_line' (by omega)) ?_
      · have lt := List.mem_range.mp hi
        have z0 : (0 : Int) + (i : Int) = i := by omega
        have ea : atI (Txt.split c ",") (i : Int) = some (Txt.split c ",")[i] := atI_nat (by omega) (by rw [Int.toNat_natCast]; exact List.getElem?_eq_getElem lt)
        have shp := sh_str (tc.split _ (List.getElem_mem lt)).1
        have ef : faultAt (Txt.split c ",") i = !decide ((Txt.split c ",")[i] ∈ itemsAll.map textOf) := by
          unfold faultAt
          rw [List.getElem?_eq_getElem lt]
          exact (word_none _).symm
        rw [ef] at t'
        simp only [wVar, wOwn, wC, wOp, wT, wChain, wAndT, wOrT, wNotT, wAnd, wOr, wNot, wIf, wNil, wCons, wDisp, wCall, wCall0, wNoPart, wPart, wSl, wRevL, wBlt, wItL, wItT, wItS, wRg1, wRg2, wEnum, wZip, wLR, wLR2, wYes, wM1, wFmt, wJoined, wIsi, wNeg, wNewD, wOwnCat, wPar2, wNext, wSeq, wNever, wSet, wNew, wAug, wExtend, wAppend, wPut, wFrz, wRet, wRetOwn, wRetN, wDrop, wIfS, wgName, wgTup, wUnp, wRaise, bodyEN, wLc, wFor, wSortSet, e_add_i, e_add_s, e_add_l, e_add_t, e_kadd_i, e_kadd_s, e_kadd_l, e_kadd_t, e_sub, e_kt, e_mul_i, e_mul_l, e_kmul_i, e_kmul_l, e_div, e_kdiv, e_mod, e_kmod, e_cmp, e_eq, e_ne, e_keq, e_is_n, e_is_b, e_isn_n, e_isn_b, e_non_n, e_non_l, e_non_t, e_non_i, e_non_s, e_non_b, e_non_x, e_in_l, e_in_t, e_ni_l, e_ni_t, e_kin_l, e_kin_t, e_kin_s, e_ix_l, e_ix_t, e_ix_s, e_kix_l, e_kix_t, e_kix_s, e_sl_l, e_sl_t, e_sl_s, e_len_l, e_len_t, e_len_s, e_klen_l, e_klen_t, e_klen_s, e_kany, e_list_l, e_list_t, e_tup_l, e_tup_t, e_sum, e_max, e_max2, e_min, e_kne, e_kne2, e_all, e_str, e_kstr, e_int, e_kint, e_split, e_ksplit, e_part, e_kpart, e_join, e_kjoin, e_pys0, e_pys1, e_sa0, e_sa1, e_wipe0, e_wipe1, e_js0, e_js1, e_ty_i, e_ty_b, e_ty_n, e_ty_s, e_ty_l, e_ty_t, e_isi_ii, e_isi_ib, e_isi_in, e_isi_is, e_isi_il, e_isi_it, e_isi_bi, e_isi_bb, e_isi_bn, e_isi_bs, e_isi_bl, e_isi_bt, e_isi_li, e_isi_lb, e_isi_ln, e_isi_ls, e_isi_ll, e_isi_lt, e_isi_ti, e_isi_tb, e_isi_tn, e_isi_ts, e_isi_tl, e_isi_tt, e_isi_si, e_isi_sb, e_isi_sn, e_isi_ss, e_isi_sl, e_isi_st, e_up, e_st0, e_st1, e_st2, exists_eq_left, exists_eq_left', exists_eq_right, exists_eq_right', exists_eq', exists_eq, true_and, and_true, and_self, false_and, and_false, exists_and_left, exists_and_right, exists_const, Option.some.injEq, Option.map_some, Option.map_none, Sl.is.injEq, Sl.own.injEq, D.py.injEq, D.ex.injEq, D.rf.injEq, PyData.int.injEq, PyData.bool.injEq, PyData.str.injEq, PyData.list.injEq, PyData.tuple.injEq, List.cons.injEq, if_true, if_false, eq_self, Bool.false_eq_true, Bool.true_eq_false, Bool.not_true, Bool.not_false, Bool.not_not, List.getElem?_cons_zero, List.getElem?_cons_succ, List.set_cons_zero, List.set_cons_succ, List.length_cons, List.length_nil, List.cons_append, List.nil_append, reduceCtorEq, List.replicate_zero, List.replicate_succ, Nat.reduceAdd, Nat.reduceSub, decide_true, decide_false, intsOf_map', blsOf_map', strsOf_map', map_int_inj, map_str_inj, map_bool_inj, map_itD_inj, itD_iff, sh_int, sh_bool, sh_none, sh_itD, sh_nil, sh_ints, sh_its, eqv_int, eqv_bool, eqv_str, eqv_itD, eqv_ints, eqv_strs, eqv_its, eqv_nil, Nat.zero_le, and_assoc, cl2, cm, z0, atI_map, ea, shp, sh_words, any_strs]
        exact t'
      · have eb : (((List.range (Txt.split c ",").length).filter (faultAt (Txt.split c ","))).map fun i : Nat => PyData.int (i : Int)) = (badOf (Txt.split c ",")).map .int := by
          rw [badOf_def, List.map_map]
          rfl
        rw [eb]
        have tfc : TFine (.str c) := tc
        have fb := fault_bad (Txt.split c ",")
        have tb : (itemsD (.str c)).isSome = (badOf (Txt.split c ",")).isEmpty := text_bad c
        simp only [wVar, wOwn, wC, wOp, wT, wChain, wAndT, wOrT, wNotT, wAnd, wOr, wNot, wIf, wNil, wCons, wDisp, wCall, wCall0, wNoPart, wPart, wSl, wRevL, wBlt, wItL, wItT, wItS, wRg1, wRg2, wEnum, wZip, wLR, wLR2, wYes, wM1, wFmt, wJoined, wIsi, wNeg, wNewD, wOwnCat, wPar2, wNext, wSeq, wNever, wSet, wNew, wAug, wExtend, wAppend, wPut, wFrz, wRet, wRetOwn, wRetN, wDrop, wIfS, wgName, wgTup, wUnp, wRaise, bodyEN, wLc, wFor, wSortSet, e_add_i, e_add_s, e_add_l, e_add_t, e_kadd_i, e_kadd_s, e_kadd_l, e_kadd_t, e_sub, e_kt, e_mul_i, e_mul_l, e_kmul_i, e_kmul_l, e_div, e_kdiv, e_mod, e_kmod, e_cmp, e_eq, e_ne, e_keq, e_is_n, e_is_b, e_isn_n, e_isn_b, e_non_n, e_non_l, e_non_t, e_non_i, e_non_s, e_non_b, e_non_x, e_in_l, e_in_t, e_ni_l, e_ni_t, e_kin_l, e_kin_t, e_kin_s, e_ix_l, e_ix_t, e_ix_s, e_kix_l, e_kix_t, e_kix_s, e_sl_l, e_sl_t, e_sl_s, e_len_l, e_len_t, e_len_s, e_klen_l, e_klen_t, e_klen_s, e_kany, e_list_l, e_list_t, e_tup_l, e_tup_t, e_sum, e_max, e_max2, e_min, e_kne, e_kne2, e_all, e_str, e_kstr, e_int, e_kint, e_split, e_ksplit, e_part, e_kpart, e_join, e_kjoin, e_pys0, e_pys1, e_sa0, e_sa1, e_wipe0, e_wipe1, e_js0, e_js1, e_ty_i, e_ty_b, e_ty_n, e_ty_s, e_ty_l, e_ty_t, e_isi_ii, e_isi_ib, e_isi_in, e_isi_is, e_isi_il, e_isi_it, e_isi_bi, e_isi_bb, e_isi_bn, e_isi_bs, e_isi_bl, e_isi_bt, e_isi_li, e_isi_lb, e_isi_ln, e_isi_ls, e_isi_ll, e_isi_lt, e_isi_ti, e_isi_tb, e_isi_tn, e_isi_ts, e_isi_tl, e_isi_tt, e_isi_si, e_isi_sb, e_isi_sn, e_isi_ss, e_isi_sl, e_isi_st, e_up, e_st0, e_st1, e_st2, exists_eq_left, exists_eq_left', exists_eq_right, exists_eq_right', exists_eq', exists_eq, true_and, and_true, and_self, false_and, and_false, exists_and_left, exists_and_right, exists_const, Option.some.injEq, Option.map_some, Option.map_none, Sl.is.injEq, Sl.own.injEq, D.py.injEq, D.ex.injEq, D.rf.injEq, PyData.int.injEq, PyData.bool.injEq, PyData.str.injEq, PyData.list.injEq, PyData.tuple.injEq, List.cons.injEq, if_true, if_false, eq_self, Bool.false_eq_true, Bool.true_eq_false, Bool.not_true, Bool.not_false, Bool.not_not, List.getElem?_cons_zero, List.getElem?_cons_succ, List.set_cons_zero, List.set_cons_succ, List.length_cons, List.length_nil, List.cons_append, List.nil_append, reduceCtorEq, List.replicate_zero, List.replicate_succ, Nat.reduceAdd, Nat.reduceSub, decide_true, decide_false, intsOf_map', blsOf_map', strsOf_map', map_int_inj, map_str_inj, map_bool_inj, map_itD_inj, itD_iff, sh_int, sh_bool, sh_none, sh_itD, sh_nil, sh_ints, sh_its, eqv_int, eqv_bool, eqv_str, eqv_itD, eqv_ints, eqv_strs, eqv_its, eqv_nil, Nat.zero_le, and_assoc, sp_first_fault, tfc, fb, sp_is_text, tb, sp__law_true, List.isEmpty_map]
        cases hbad : badOf (Txt.split c ",") with
        | nil =>
          simp only [List.isEmpty_nil, headD, List.map_nil, wVar, wOwn, wC, wOp, wT, wChain, wAndT, wOrT, wNotT, wAnd, wOr, wNot, wIf, wNil, wCons, wDisp, wCall, wCall0, wNoPart, wPart, wSl, wRevL, wBlt, wItL, wItT, wItS, wRg1, wRg2, wEnum, wZip, wLR, wLR2, wYes, wM1, wFmt, wJoined, wIsi, wNeg, wNewD, wOwnCat, wPar2, wNext, wSeq, wNever, wSet, wNew, wAug, wExtend, wAppend, wPut, wFrz, wRet, wRetOwn, wRetN, wDrop, wIfS, wgName, wgTup, wUnp, wRaise, bodyEN, wLc, wFor, wSortSet, e_add_i, e_add_s, e_add_l, e_add_t, e_kadd_i, e_kadd_s, e_kadd_l, e_kadd_t, e_sub, e_kt, e_mul_i, e_mul_l, e_kmul_i, e_kmul_l, e_div, e_kdiv, e_mod, e_kmod, e_cmp, e_eq, e_ne, e_keq, e_is_n, e_is_b, e_isn_n, e_isn_b, e_non_n, e_non_l, e_non_t, e_non_i, e_non_s, e_non_b, e_non_x, e_in_l, e_in_t, e_ni_l, e_ni_t, e_kin_l, e_kin_t, e_kin_s, e_ix_l, e_ix_t, e_ix_s, e_kix_l, e_kix_t, e_kix_s, e_sl_l, e_sl_t, e_sl_s, e_len_l, e_len_t, e_len_s, e_klen_l, e_klen_t, e_klen_s, e_kany, e_list_l, e_list_t, e_tup_l, e_tup_t, e_sum, e_max, e_max2, e_min, e_kne, e_kne2, e_all, e_str, e_kstr, e_int, e_kint, e_split, e_ksplit, e_part, e_kpart, e_join, e_kjoin, e_pys0, e_pys1, e_sa0, e_sa1, e_wipe0, e_wipe1, e_js0, e_js1, e_ty_i, e_ty_b, e_ty_n, e_ty_s, e_ty_l, e_ty_t, e_isi_ii, e_isi_ib, e_isi_in, e_isi_is, e_isi_il, e_isi_it, e_isi_bi, e_isi_bb, e_isi_bn, e_isi_bs, e_isi_bl, e_isi_bt, e_isi_li, e_isi_lb, e_isi_ln, e_isi_ls, e_isi_ll, e_isi_lt, e_isi_ti, e_isi_tb, e_isi_tn, e_isi_ts, e_isi_tl, e_isi_tt, e_isi_si, e_isi_sb, e_isi_sn, e_isi_ss, e_isi_sl, e_isi_st, e_up, e_st0, e_st1, e_st2, exists_eq_left, exists_eq_left', exists_eq_right, exists_eq_right', exists_eq', exists_eq, true_and, and_true, and_self, false_and, and_false, exists_and_left, exists_and_right, exists_const, Option.some.injEq, Option.map_some, Option.map_none, Sl.is.injEq, Sl.own.injEq, D.py.injEq, D.ex.injEq, D.rf.injEq, PyData.int.injEq, PyData.bool.injEq, PyData.str.injEq, PyData.list.injEq, PyData.tuple.injEq, List.cons.injEq, if_true, if_false, eq_self, Bool.false_eq_true, Bool.true_eq_false, Bool.not_true, Bool.not_false, Bool.not_not, List.getElem?_cons_zero, List.getElem?_cons_succ, List.set_cons_zero, List.set_cons_succ, List.length_cons, List.length_nil, List.cons_append, List.nil_append, reduceCtorEq, List.replicate_zero, List.replicate_succ, Nat.reduceAdd, Nat.reduceSub, decide_true, decide_false, intsOf_map', blsOf_map', strsOf_map', map_int_inj, map_str_inj, map_bool_inj, map_itD_inj, itD_iff, sh_int, sh_bool, sh_none, sh_itD, sh_nil, sh_ints, sh_its, eqv_int, eqv_bool, eqv_str, eqv_itD, eqv_ints, eqv_strs, eqv_its, eqv_nil, Nat.zero_le, and_assoc, PyData.eqv]
          exact hR _ _ ⟨rfl, _, _, _, _, _, _, _, rfl⟩
        | cons k r =>
          simp only [List.isEmpty_cons, headD, List.map_cons, wVar, wOwn, wC, wOp, wT, wChain, wAndT, wOrT, wNotT, wAnd, wOr, wNot, wIf, wNil, wCons, wDisp, wCall, wCall0, wNoPart, wPart, wSl, wRevL, wBlt, wItL, wItT, wItS, wRg1, wRg2, wEnum, wZip, wLR, wLR2, wYes, wM1, wFmt, wJoined, wIsi, wNeg, wNewD, wOwnCat, wPar2, wNext, wSeq, wNever, wSet, wNew, wAug, wExtend, wAppend, wPut, wFrz, wRet, wRetOwn, wRetN, wDrop, wIfS, wgName, wgTup, wUnp, wRaise, bodyEN, wLc, wFor, wSortSet, e_add_i, e_add_s, e_add_l, e_add_t, e_kadd_i, e_kadd_s, e_kadd_l, e_kadd_t, e_sub, e_kt, e_mul_i, e_mul_l, e_kmul_i, e_kmul_l, e_div, e_kdiv, e_mod, e_kmod, e_cmp, e_eq, e_ne, e_keq, e_is_n, e_is_b, e_isn_n, e_isn_b, e_non_n, e_non_l, e_non_t, e_non_i, e_non_s, e_non_b, e_non_x, e_in_l, e_in_t, e_ni_l, e_ni_t, e_kin_l, e_kin_t, e_kin_s, e_ix_l, e_ix_t, e_ix_s, e_kix_l, e_kix_t, e_kix_s, e_sl_l, e_sl_t, e_sl_s, e_len_l, e_len_t, e_len_s, e_klen_l, e_klen_t, e_klen_s, e_kany, e_list_l, e_list_t, e_tup_l, e_tup_t, e_sum, e_max, e_max2, e_min, e_kne, e_kne2, e_all, e_str, e_kstr, e_int, e_kint, e_split, e_ksplit, e_part, e_kpart, e_join, e_kjoin, e_pys0, e_pys1, e_sa0, e_sa1, e_wipe0, e_wipe1, e_js0, e_js1, e_ty_i, e_ty_b, e_ty_n, e_ty_s, e_ty_l, e_ty_t, e_isi_ii, e_isi_ib, e_isi_in, e_isi_is, e_isi_il, e_isi_it, e_isi_bi, e_isi_bb, e_isi_bn, e_isi_bs, e_isi_bl, e_isi_bt, e_isi_li, e_isi_lb, e_isi_ln, e_isi_ls, e_isi_ll, e_isi_lt, e_isi_ti, e_isi_tb, e_isi_tn, e_isi_ts, e_isi_tl, e_isi_tt, e_isi_si, e_isi_sb, e_isi_sn, e_isi_ss, e_isi_sl, e_isi_st, e_up, e_st0, e_st1, e_st2, exists_eq_left, exists_eq_left', exists_eq_right, exists_eq_right', exists_eq', exists_eq, true_and, and_true, and_self, false_and, and_false, exists_and_left, exists_and_right, exists_const, Option.some.injEq, Option.map_some, Option.map_none, Sl.is.injEq, Sl.own.injEq, D.py.injEq, D.ex.injEq, D.rf.injEq, PyData.int.injEq, PyData.bool.injEq, PyData.str.injEq, PyData.list.injEq, PyData.tuple.injEq, List.cons.injEq, if_true, if_false, eq_self, Bool.false_eq_true, Bool.true_eq_false, Bool.not_true, Bool.not_false, Bool.not_not, List.getElem?_cons_zero, List.getElem?_cons_succ, List.set_cons_zero, List.set_cons_succ, List.length_cons, List.length_nil, List.cons_append, List.nil_append, reduceCtorEq, List.replicate_zero, List.replicate_succ, Nat.reduceAdd, Nat.reduceSub, decide_true, decide_false, intsOf_map', blsOf_map', strsOf_map', map_int_inj, map_str_inj, map_bool_inj, map_itD_inj, itD_iff, sh_int, sh_bool, sh_none, sh_itD, sh_nil, sh_ints, sh_its, eqv_int, eqv_bool, eqv_str, eqv_itD, eqv_ints, eqv_strs, eqv_its, eqv_nil, Nat.zero_le, and_assoc, atI_zero]
          exact hR _ _ ⟨rfl, _, _, _, _, _, _, _, rfl⟩
    · obtain ⟨rfl, s6, s10, s11, s12, s13, s14, s15, rfl⟩ := h
      have f1 : TFine .none := trivial
      have f2 : TFine (.str "") := ⟨by decide +kernel, by decide +kernel⟩
      have f3 : TFine (.list [.str "1"]) := trivial
      have i1 : itemsD .none = none := rfl
      have i2 : itemsD (.str "") = none := by decide +kernel
      have i3 : itemsD (.list [.str "1"]) = none := rfl
      have ff0 : faultIx (Txt.split "" ",") = .int 0 := by rw [fault_bad]; exact congrArg headD (show badOf (Txt.split "" ",") = [0] by decide +kernel)
      have l1 : (1 ≤ sizeLine) = True := eq_true (by decide)
      simp only [wVar, wOwn, wC, wOp, wT, wChain, wAndT, wOrT, wNotT, wAnd, wOr, wNot, wIf, wNil, wCons, wDisp, wCall, wCall0, wNoPart, wPart, wSl, wRevL, wBlt, wItL, wItT, wItS, wRg1, wRg2, wEnum, wZip, wLR, wLR2, wYes, wM1, wFmt, wJoined, wIsi, wNeg, wNewD, wOwnCat, wPar2, wNext, wSeq, wNever, wSet, wNew, wAug, wExtend, wAppend, wPut, wFrz, wRet, wRetOwn, wRetN, wDrop, wIfS, wgName, wgTup, wUnp, wRaise, bodyEN, wLc, wFor, wSortSet, e_add_i, e_add_s, e_add_l, e_add_t, e_kadd_i, e_kadd_s, e_kadd_l, e_kadd_t, e_sub, e_kt, e_mul_i, e_mul_l, e_kmul_i, e_kmul_l, e_div, e_kdiv, e_mod, e_kmod, e_cmp, e_eq, e_ne, e_keq, e_is_n, e_is_b, e_isn_n, e_isn_b, e_non_n, e_non_l, e_non_t, e_non_i, e_non_s, e_non_b, e_non_x, e_in_l, e_in_t, e_ni_l, e_ni_t, e_kin_l, e_kin_t, e_kin_s, e_ix_l, e_ix_t, e_ix_s, e_kix_l, e_kix_t, e_kix_s, e_sl_l, e_sl_t, e_sl_s, e_len_l, e_len_t, e_len_s, e_klen_l, e_klen_t, e_klen_s, e_kany, e_list_l, e_list_t, e_tup_l, e_tup_t, e_sum, e_max, e_max2, e_min, e_kne, e_kne2, e_all, e_str, e_kstr, e_int, e_kint, e_split, e_ksplit, e_part, e_kpart, e_join, e_kjoin, e_pys0, e_pys1, e_sa0, e_sa1, e_wipe0, e_wipe1, e_js0, e_js1, e_ty_i, e_ty_b, e_ty_n, e_ty_s, e_ty_l, e_ty_t, e_isi_ii, e_isi_ib, e_isi_in, e_isi_is, e_isi_il, e_isi_it, e_isi_bi, e_isi_bb, e_isi_bn, e_isi_bs, e_isi_bl, e_isi_bt, e_isi_li, e_isi_lb, e_isi_ln, e_isi_ls, e_isi_ll, e_isi_lt, e_isi_ti, e_isi_tb, e_isi_tn, e_isi_ts, e_isi_tl, e_isi_tt, e_isi_si, e_isi_sb, e_isi_sn, e_isi_ss, e_isi_sl, e_isi_st, e_up, e_st0, e_st1, e_st2, exists_eq_left, exists_eq_left', exists_eq_right, exists_eq_right', exists_eq', exists_eq, true_and, and_true, and_self, false_and, and_false, exists_and_left, exists_and_right, exists_const, Option.some.injEq, Option.map_some, Option.map_none, Sl.is.injEq, Sl.own.injEq, D.py.injEq, D.ex.injEq, D.rf.injEq, PyData.int.injEq, PyData.bool.injEq, PyData.str.injEq, PyData.list.injEq, PyData.tuple.injEq, List.cons.injEq, if_true, if_false, eq_self, Bool.false_eq_true, Bool.true_eq_false, Bool.not_true, Bool.not_false, Bool.not_not, List.getElem?_cons_zero, List.getElem?_cons_succ, List.set_cons_zero, List.set_cons_succ, List.length_cons, List.length_nil, List.cons_append, List.nil_append, reduceCtorEq, List.replicate_zero, List.replicate_succ, Nat.reduceAdd, Nat.reduceSub, decide_true, decide_false, intsOf_map', blsOf_map', strsOf_map', map_int_inj, map_str_inj, map_bool_inj, map_itD_inj, itD_iff, sh_int, sh_bool, sh_none, sh_itD, sh_nil, sh_ints, sh_its, eqv_int, eqv_bool, eqv_str, eqv_itD, eqv_ints, eqv_strs, eqv_its, eqv_nil, Nat.zero_le, and_assoc, sp_is_text, f1, f2, f3, i1, i2, i3, Option.isSome_none, l1, sp_first_fault, ff0]
      exact n a
end RT
end
section
set_option Elab.async false
set_option linter.all false
set_option maxRecDepth 100000
set_option maxHeartbeats 0
namespace RT
open PySem PySem.Spec PyProof.Rows L2
def top (i : Nat) : Stmt := PySem.Challenge.pw_rangetexts_k02_whole_texts.main.body.getD i (.Pass ⟨0, 0, 0, 0⟩)
abbrev FnP (K : PySem.W.Frag) (x : Str) (st : Stmt) (f : Addr) (fd : FuncData) : Prop := FunD K x x (defArgs st) (defBody st) (defScope st) [] [] f fd
structure Fx (C : EK → Addr) (K : PySem.W.Frag) (mg : Str → Option Value) : Prop where
  n_all : mg "all" = none
  n_bool : mg "bool" = none
  n_enumerate : mg "enumerate" = none
  n_int : mg "int" = none
  n_isinstance : mg "isinstance" = none
  n_len : mg "len" = none
  n_list : mg "list" = none
  n_range : mg "range" = none
  n_set : mg "set" = none
  n_sorted : mg "sorted" = none
  n_str : mg "str" = none
  n_tuple : mg "tuple" = none
  n_zip : mg "zip" = none
  most : ∃ t, mg "MOST" = some (.int 10 t)
  digits : ∃ t, mg "DIGITS" = some (.str "0123456789" t)
  x_text : ExcOk K mg "BadText" (C .text)
structure Hx (C : EK → Addr) (K : PySem.W.Frag) (mg : Str → Option Value) : Prop where
  fx : Fx C K mg
  d_is_int : ∃ f fd, FnP K "is_int" (top 4) f fd ∧ mg "is_int" = some (.ref f)
  d_is_set : ∃ f fd, FnP K "is_set" (top 5) f fd ∧ mg "is_set" = some (.ref f)
  d_is_item : ∃ f fd, FnP K "is_item" (top 6) f fd ∧ mg "is_item" = some (.ref f)
  d_numbers_of : ∃ f fd, FnP K "numbers_of" (top 9) f fd ∧ mg "numbers_of" = some (.ref f)
  d_text_of : ∃ f fd, FnP K "text_of" (top 10) f fd ∧ mg "text_of" = some (.ref f)
  d_number_in : ∃ f fd, FnP K "number_in" (top 11) f fd ∧ mg "number_in" = some (.ref f)
  d_item_in : ∃ f fd, FnP K "item_in" (top 12) f fd ∧ mg "item_in" = some (.ref f)
  d_items_in : ∃ f fd, FnP K "items_in" (top 14) f fd ∧ mg "items_in" = some (.ref f)
  d_set_of : ∃ f fd, FnP K "set_of" (top 15) f fd ∧ mg "set_of" = some (.ref f)
  d_check_text : ∃ f fd, FnP K "check_text" (top 16) f fd ∧ mg "check_text" = some (.ref f)
  d_is_text : ∃ f fd, FnP K "is_text" (top 17) f fd ∧ mg "is_text" = some (.ref f)
  d_parse : ∃ f fd, FnP K "parse" (top 18) f fd ∧ mg "parse" = some (.ref f)
  d_items : ∃ f fd, FnP K "items" (top 19) f fd ∧ mg "items" = some (.ref f)
  d_first_fault : ∃ f fd, FnP K "first_fault" (top 20) f fd ∧ mg "first_fault" = some (.ref f)
  d_mean_same : ∃ f fd, FnP K "mean_same" (top 21) f fd ∧ mg "mean_same" = some (.ref f)
  d_needless : ∃ f fd, FnP K "needless" (top 22) f fd ∧ mg "needless" = some (.ref f)
  d_covered_times : ∃ f fd, FnP K "covered_times" (top 23) f fd ∧ mg "covered_times" = some (.ref f)
  d__law_start : ∃ f fd, FnP K "_law_start" (top 25) f fd ∧ mg "_law_start" = some (.ref f)
  d__law_draw : ∃ f fd, FnP K "_law_draw" (top 26) f fd ∧ mg "_law_draw" = some (.ref f)
  d__law_pick : ∃ f fd, FnP K "_law_pick" (top 27) f fd ∧ mg "_law_pick" = some (.ref f)
  d__law_true : ∃ f fd, FnP K "_law_true" (top 28) f fd ∧ mg "_law_true" = some (.ref f)
  d__law_items : ∃ f fd, FnP K "_law_items" (top 29) f fd ∧ mg "_law_items" = some (.ref f)
  d__law_numbers : ∃ f fd, FnP K "_law_numbers" (top 30) f fd ∧ mg "_law_numbers" = some (.ref f)
  d__law_word : ∃ f fd, FnP K "_law_word" (top 31) f fd ∧ mg "_law_word" = some (.ref f)
  d__law_text : ∃ f fd, FnP K "_law_text" (top 32) f fd ∧ mg "_law_text" = some (.ref f)
  d__law_meant : ∃ f fd, FnP K "_law_meant" (top 33) f fd ∧ mg "_law_meant" = some (.ref f)
  d_law : ∃ f fd, FnP K "law" (top 34) f fd ∧ mg "law" = some (.ref f)
section
variable {P : Program} {w : World} {K : PySem.W.Frag} {mg : Str → Option Value} {base : Heap} {C : EK → Addr}
set_option hygiene false in
local macro_rules | `(tactic| trivial) => `(tactic| (first | (obtain ⟨_, rfl, _⟩ := h; rfl) | (obtain ⟨_, _, rfl, _⟩ := h; rfl) | (obtain ⟨_, _, _, rfl, _⟩ := h; rfl) | (obtain ⟨rfl, _⟩ := h; rfl)))
theorem sc_is_int : FnScope ["value", "low", "high"] ["value", "low", "high"] (defScope (top 4)) := ⟨rfl, rfl, rfl, by decide +kernel, rfl, by decide +kernel, by decide +kernel⟩
theorem der_is_int (F : Fx C K mg) (f : Addr) (cdv : Value) (A : Around) (outer : List Env) (s : Shared) (H : Hp) (E : XK) (hr : Room 0 (A.deeper (envOfC "is_int" (defScope (top 4)) s.heap.objs.size f cdv))) :
    SXs (cxOf (L2.CX P w) P w K mg base ["value", "low", "high"] "is_int" (defScope (top 4)) f cdv A outer s H E) (V0 C) (WxE E) (defBody (top 4)) w_is_int := by
  have tk : Takes (cxOf (L2.CX P w) P w K mg base ["value", "low", "high"] "is_int" (defScope (top 4)) f cdv A outer s H E) (WxE E) := takes_of rfl rfl rfl rfl
  have po := passes_of (X := cxOf (L2.CX P w) P w K mg base ["value", "low", "high"] "is_int" (defScope (top 4)) f cdv A outer s H E) rfl
  have nd := sc_is_int.nd
  exact (sxs_one (sx_ret (ex_and (ex_isi "int" F.n_isinstance F.n_int rfl rfl (ex_var 0)) (ex_and (ex_not (ex_isi "bool" F.n_isinstance F.n_bool rfl rfl (ex_var 0))) (ex_one (ex_chain o_le o_le (ex_var 1) (ex_var 0) (ex_var 2)))))))
theorem len_is_int : ∀ ds θ N Nx, (sp_is_int.up : Spec Unit) ds θ N Nx → ds.length = 3 := by
  intro ds θ N Nx h
  trivial
theorem cal_is_int (X : Hx C K mg) : CalD P w K mg base 1 "is_int" (V0 C) sp_is_int.up := by
  obtain ⟨f, fd, F, hm⟩ := X.d_is_int
  exact cal_of F (def_ok F sc_is_int len_is_int law_is_int fun cdv A outer s H E hr => der_is_int X.fx f cdv A outer s H E hr) hm (F.bindsN fun _ _ _ _ _ _ us hl => match us, hl with | [_, _, _], _ => rfl)
theorem sc_numbers_of : FnScope ["item"] ["item"] (defScope (top 9)) := ⟨rfl, rfl, rfl, by decide +kernel, rfl, by decide +kernel, by decide +kernel⟩
theorem der_numbers_of (F : Fx C K mg) (f : Addr) (cdv : Value) (A : Around) (outer : List Env) (s : Shared) (H : Hp) (E : XK) (hr : Room 0 (A.deeper (envOfC "numbers_of" (defScope (top 9)) s.heap.objs.size f cdv))) :
    SXs (cxOf (L2.CX P w) P w K mg base ["item"] "numbers_of" (defScope (top 9)) f cdv A outer s H E) (V0 C) (WxE E) (defBody (top 9)) w_numbers_of := by
  have tk : Takes (cxOf (L2.CX P w) P w K mg base ["item"] "numbers_of" (defScope (top 9)) f cdv A outer s H E) (WxE E) := takes_of rfl rfl rfl rfl
  have po := passes_of (X := cxOf (L2.CX P w) P w K mg base ["item"] "numbers_of" (defScope (top 9)) f cdv A outer s H E) rfl
  have nd := sc_numbers_of.nd
  exact (sxs_one (sx_ret (ex_lr rfl F.n_list F.n_range rfl rfl (ax_cons (EX.rd (ex_ix (ex_var 0) ex_int)) (ax_cons (EX.rd (ex_op o_add (ex_ix (ex_var 0) ex_int) ex_int)) (ax_cons (EX.rd (ex_ix (ex_var 0) ex_int)) ax_nil))))))
theorem len_numbers_of : ∀ ds θ N Nx, (sp_numbers_of.up : Spec Unit) ds θ N Nx → ds.length = 1 := by
  intro ds θ N Nx h
  trivial
theorem cal_numbers_of (X : Hx C K mg) : CalD P w K mg base 1 "numbers_of" (V0 C) sp_numbers_of.up := by
  obtain ⟨f, fd, F, hm⟩ := X.d_numbers_of
  exact cal_of F (def_ok F sc_numbers_of len_numbers_of law_numbers_of fun cdv A outer s H E hr => der_numbers_of X.fx f cdv A outer s H E hr) hm (F.bindsN fun _ _ _ _ _ _ us hl => match us, hl with | [_], _ => rfl)
theorem sc_text_of : FnScope ["item", "first", "last", "step"] ["item"] (defScope (top 10)) := ⟨rfl, rfl, rfl, by decide +kernel, rfl, by decide +kernel, by decide +kernel⟩
theorem der_text_of (F : Fx C K mg) (f : Addr) (cdv : Value) (A : Around) (outer : List Env) (s : Shared) (H : Hp) (E : XK) (hr : Room 0 (A.deeper (envOfC "text_of" (defScope (top 10)) s.heap.objs.size f cdv))) :
    SXs (cxOf (L2.CX P w) P w K mg base ["item", "first", "last", "step"] "text_of" (defScope (top 10)) f cdv A outer s H E) (V0 C) (WxE E) (defBody (top 10)) w_text_of := by
  have tk : Takes (cxOf (L2.CX P w) P w K mg base ["item", "first", "last", "step"] "text_of" (defScope (top 10)) f cdv A outer s H E) (WxE E) := takes_of rfl rfl rfl rfl
  have po := passes_of (X := cxOf (L2.CX P w) P w K mg base ["item", "first", "last", "step"] "text_of" (defScope (top 10)) f cdv A outer s H E) rfl
  have nd := sc_text_of.nd
  exact (sxs_cons (sx_unp (ex_var 0) (gx_tup rfl (gxs_cons 1 nd (gxs_cons 2 nd (gxs_cons 3 nd gxs_nil))))) (sxs_cons (sx_if (tx_cmp (o_eq hr.units) (ex_var 1) (ex_var 2)) (sxs_one (sx_ret (ex_ty b_str F.n_str rfl (ax_cons (EX.rd (ex_var 1)) ax_nil)))) sxs_nil) (sxs_one (sx_ret (ex_if (tx_cmp (o_eq hr.units) (ex_var 3) ex_int) (ex_joined (jx_cons (ex_fmt (ex_var 1)) (jx_cons ex_str (jx_cons (ex_fmt (ex_var 2)) jx_nil)))) (ex_joined (jx_cons (ex_fmt (ex_var 1)) (jx_cons ex_str (jx_cons (ex_fmt (ex_var 2)) (jx_cons ex_str (jx_cons (ex_fmt (ex_var 3)) jx_nil)))))))))))
theorem len_text_of : ∀ ds θ N Nx, (sp_text_of.up : Spec Unit) ds θ N Nx → ds.length = 1 := by
  intro ds θ N Nx h
  trivial
theorem cal_text_of (X : Hx C K mg) : CalD P w K mg base 1 "text_of" (V0 C) sp_text_of.up := by
  obtain ⟨f, fd, F, hm⟩ := X.d_text_of
  exact cal_of F (def_ok F sc_text_of len_text_of law_text_of fun cdv A outer s H E hr => der_text_of X.fx f cdv A outer s H E hr) hm (F.bindsN fun _ _ _ _ _ _ us hl => match us, hl with | [_], _ => rfl)
theorem sc_number_in : FnScope ["word", "sign"] ["word"] (defScope (top 11)) := ⟨rfl, rfl, rfl, by decide +kernel, rfl, by decide +kernel, by decide +kernel⟩
theorem der_number_in (F : Fx C K mg) (f : Addr) (cdv : Value) (A : Around) (outer : List Env) (s : Shared) (H : Hp) (E : XK) (hr : Room 0 (A.deeper (envOfC "number_in" (defScope (top 11)) s.heap.objs.size f cdv))) :
    SXs (cxOf (L2.CX P w) P w K mg base ["word", "sign"] "number_in" (defScope (top 11)) f cdv A outer s H E) (V0 C) (WxE E) (defBody (top 11)) w_number_in := by
  have tk : Takes (cxOf (L2.CX P w) P w K mg base ["word", "sign"] "number_in" (defScope (top 11)) f cdv A outer s H E) (WxE E) := takes_of rfl rfl rfl rfl
  have po := passes_of (X := cxOf (L2.CX P w) P w K mg base ["word", "sign"] "number_in" (defScope (top 11)) f cdv A outer s H E) rfl
  have nd := sc_number_in.nd
  exact (sxs_cons (sx_if (TW.tx (tw_or (tx_not (tx_chain o_le o_le ex_int (ex_blt b_len F.n_len rfl (ax_cons (EX.rd (ex_var 0)) ax_nil)) ex_int)) (tw_or (tx_not (tx_val (ex_blt (b_all rfl) F.n_all rfl (ax_cons (EX.rd (ex_lc rfl nd [("sign", 1)] (ix_str (ex_var 0)) (blkOk_by (by kernel_rfl)) (fun _ _ _ _ _ => (gx_name 1 nd)) (fun _ _ _ _ _ => txs_nil) (fun _ _ _ _ _ => (ex_cmp (o_in hr.u65) (ex_var 1) (ex_gstr rfl F.digits))))) ax_nil)))) (tw_or1 (tx_cmp (o_ne hr.units) (ex_ty b_str F.n_str rfl (ax_cons (EX.rd (ex_ty b_int F.n_int rfl (ax_cons (EX.rd (ex_var 0)) ax_nil))) ax_nil)) (ex_var 0)))))) (sxs_one (sx_ret ex_int)) sxs_nil) (sxs_one (sx_ret (ex_if (tx_cmp o_le (ex_ty b_int F.n_int rfl (ax_cons (EX.rd (ex_var 0)) ax_nil)) (ex_gint rfl F.most)) (ex_ty b_int F.n_int rfl (ax_cons (EX.rd (ex_var 0)) ax_nil)) ex_int))))
theorem len_number_in : ∀ ds θ N Nx, (sp_number_in.up : Spec Unit) ds θ N Nx → ds.length = 1 := by
  intro ds θ N Nx h
  trivial
theorem cal_number_in (X : Hx C K mg) : CalD P w K mg base 1 "number_in" (V0 C) sp_number_in.up := by
  obtain ⟨f, fd, F, hm⟩ := X.d_number_in
  exact cal_of F (def_ok F sc_number_in len_number_in law_number_in fun cdv A outer s H E hr => der_number_in X.fx f cdv A outer s H E hr) hm (F.bindsN fun _ _ _ _ _ _ us hl => match us, hl with | [_], _ => rfl)
theorem sc__law_start : FnScope ["_law_script"] ["_law_script"] (defScope (top 25)) := ⟨rfl, rfl, rfl, by decide +kernel, rfl, by decide +kernel, by decide +kernel⟩
theorem cal__law_start (X : Hx C K mg) : CalD P w K mg base 1 "_law_start" (VD K C) spd_start := by
  obtain ⟨f, fd, F, hm⟩ := X.d__law_start
  have gl := X.fx.n_list
  refine cal_of F (start_ok rfl rfl F sc__law_start fun cdv A outer s H E hr => ?_) hm (F.bindsN fun _ _ _ _ _ _ us hl => match us, hl with | [_], _ => rfl)
  exact pss_one (ps_ret (pe_lst (pa_cons (pe_ifExp (pt_cmpR (op_neD hr.units) (pv 0) (pe_lst pa_nil) (nomark _)) (pe_callTy call_list_of rfl gl boot_list (pa_cons (pv 0) pa_nil)) (pe_lst (pa_cons pe_int pa_nil))) (pa_cons pe_int pa_nil))))
theorem sc__law_draw : FnScope ["_law_draws", "_law_limit", "_law_numbers_here", "_law_at", "_law_cell", "_law_mixed"] ["_law_draws", "_law_limit"] (defScope (top 26)) := ⟨rfl, rfl, rfl, by decide +kernel, rfl, by decide +kernel, by decide +kernel⟩
theorem cal__law_draw (X : Hx C K mg) : CalD P w K mg base 1 "_law_draw" (VD K C) spd_draw := by
  obtain ⟨f, fd, F, hm⟩ := X.d__law_draw
  have nd := sc__law_draw.nd
  have gl := X.fx.n_len
  refine cal_of F (draw_ok rfl rfl F sc__law_draw fun cdv A outer s H E hr => ?_) hm (F.bindsN fun _ _ _ _ _ _ us hl => match us, hl with | [_, _], _ => rfl)
  exact pss_cons (ps_set (i := 2) nd rfl (Or.inl rfl) (pe_ix L2.ix_list (pv 0) pe_int (fun _ _ => rfl)))
    (pss_cons (ps_asg (pe_op op_add (pe_ix L2.ix_list (pv 0) pe_int (fun _ _ => rfl)) pe_int) (pg_sub (pv 0) pe_int set_list))
    (pss_cons (ps_set (i := 3) nd rfl (Or.inl rfl) (pe_op op_mod (pe_ix L2.ix_list (pv 0) pe_int (fun _ _ => rfl)) (pe_callB call_len_seq rfl gl boot_len (pa_cons (pv 2) pa_nil))))
    (pss_cons (ps_set (i := 4) nd rfl (Or.inl rfl) (pe_ix L2.ix_list (pv 2) (pv 3) (fun _ _ => rfl)))
    (pss_cons (ps_if (pt_cmpR op_ge (pv 4) pe_int (nomark _)) (pss_cons (ps_asg (pe_op op_fdiv (pv 4) (pv 1)) (pg_sub (pv 2) (pv 3) set_list)) (pss_one (ps_ret (pe_op op_mod (pv 4) (pv 1))))) pss_nil)
    (pss_cons (ps_set (i := 5) nd rfl (Or.inl rfl) (pe_op op_mod (pe_op op_add (pv 4) (pe_op op_mul pe_int (pe_ix L2.ix_list (pv 0) pe_int (fun _ _ => rfl)))) pe_int))
    (pss_cons (ps_set (i := 5) nd rfl (Or.inl rfl) (pe_op op_mod (pe_op op_pow (pv 5) pe_int) pe_int))
    (pss_one (ps_ret (pe_op op_mod (pe_op op_fdiv (pe_op op_mod (pe_op op_add (pe_op op_mul (pe_op op_fdiv (pv 5) pe_int) pe_int) (pv 5)) pe_int) pe_int) (pv 1))))))))))
theorem sc__law_true : FnScope ["_law_value", "_law_expected"] ["_law_value", "_law_expected"] (defScope (top 28)) := ⟨rfl, rfl, rfl, by decide +kernel, rfl, by decide +kernel, by decide +kernel⟩
theorem der__law_true (F : Fx C K mg) (f : Addr) (cdv : Value) (A : Around) (outer : List Env) (s : Shared) (H : Hp) (E : XK) (hr : Room 0 (A.deeper (envOfC "_law_true" (defScope (top 28)) s.heap.objs.size f cdv))) :
    SXs (cxOf (L2.CX P w) P w K mg base ["_law_value", "_law_expected"] "_law_true" (defScope (top 28)) f cdv A outer s H E) (V0 C) (WxE E) (defBody (top 28)) w__law_true := by
  have tk : Takes (cxOf (L2.CX P w) P w K mg base ["_law_value", "_law_expected"] "_law_true" (defScope (top 28)) f cdv A outer s H E) (WxE E) := takes_of rfl rfl rfl rfl
  have po := passes_of (X := cxOf (L2.CX P w) P w K mg base ["_law_value", "_law_expected"] "_law_true" (defScope (top 28)) f cdv A outer s H E) rfl
  have nd := sc__law_true.nd
  exact (sxs_one (sx_ret (ex_and (ex_isi "bool" F.n_isinstance F.n_bool rfl rfl (ex_var 0)) (ex_one (ex_cmp (o_eq hr.units) (ex_var 0) (ex_var 1))))))
theorem len__law_true : ∀ ds θ N Nx, (sp__law_true.up : Spec Unit) ds θ N Nx → ds.length = 2 := by
  intro ds θ N Nx h
  trivial
theorem cal__law_true (X : Hx C K mg) : CalD P w K mg base 1 "_law_true" (V0 C) sp__law_true.up := by
  obtain ⟨f, fd, F, hm⟩ := X.d__law_true
  exact cal_of F (def_ok F sc__law_true len__law_true law_true fun cdv A outer s H E hr => der__law_true X.fx f cdv A outer s H E hr) hm (F.bindsN fun _ _ _ _ _ _ us hl => match us, hl with | [_, _], _ => rfl)
theorem sc__law_items : FnScope ["_law_found", "_law_first", "_law_last", "_law_by"] [] (defScope (top 29)) := ⟨rfl, rfl, rfl, by decide +kernel, rfl, by decide +kernel, by decide +kernel⟩
theorem der__law_items (F : Fx C K mg) (f : Addr) (cdv : Value) (A : Around) (outer : List Env) (s : Shared) (H : Hp) (E : XK) (hr : Room 0 (A.deeper (envOfC "_law_items" (defScope (top 29)) s.heap.objs.size f cdv))) :
    SXs (cxOf (L2.CX P w) P w K mg base ["_law_found", "_law_first", "_law_last", "_law_by"] "_law_items" (defScope (top 29)) f cdv A outer s H E) (V0 C) (WxE E) (defBody (top 29)) w__law_items := by
  have tk : Takes (cxOf (L2.CX P w) P w K mg base ["_law_found", "_law_first", "_law_last", "_law_by"] "_law_items" (defScope (top 29)) f cdv A outer s H E) (WxE E) := takes_of rfl rfl rfl rfl
  have po := passes_of (X := cxOf (L2.CX P w) P w K mg base ["_law_found", "_law_first", "_law_last", "_law_by"] "_law_items" (defScope (top 29)) f cdv A outer s H E) rfl
  have nd := sc__law_items.nd
  exact (sxs_cons (sx_new 0 nd) (sxs_cons (sx_for po rfl (ix_range2 F.n_range rfl (ax_cons (EX.rd ex_int) (ax_cons (EX.rd ex_int) ax_nil))) (gx_name 1 nd) (sxs_cons (sx_append 0 (ex_tup (ax_cons (ex_var 1) (ax_cons (ex_var 1) (ax_cons ex_int ax_nil))))) (sxs_one (sx_for po rfl (ix_range2 F.n_range rfl (ax_cons (EX.rd (ex_op o_add (ex_var 1) ex_int)) (ax_cons (EX.rd ex_int) ax_nil))) (gx_name 2 nd) (sxs_one (sx_ownCat 0 nd (ex_lc rfl nd [("_law_by", 3)] (ix_range2 F.n_range rfl (ax_cons (EX.rd ex_int) (ax_cons (EX.rd ex_int) ax_nil))) (blkOk_by (by kernel_rfl)) (fun _ _ _ _ _ => (gx_name 3 nd)) (fun _ _ _ _ _ => (txs_one (tx_cmp (o_eq hr.units) (ex_op o_mod (ex_op o_sub (ex_var 2) (ex_var 1)) (ex_var 3)) ex_int))) (fun _ _ _ _ _ => (ex_tup (ax_cons (ex_var 1) (ax_cons (ex_var 2) (ax_cons (ex_var 3) ax_nil)))))))))))) (sxs_frz 0 (sxs_one (sx_ret (ex_var 0))))))
theorem len__law_items : ∀ ds θ N Nx, (sp__law_items.up : Spec Unit) ds θ N Nx → ds.length = 0 := by
  intro ds θ N Nx h
  trivial
theorem cal__law_items (X : Hx C K mg) : CalD P w K mg base 1 "_law_items" (V0 C) sp__law_items.up := by
  obtain ⟨f, fd, F, hm⟩ := X.d__law_items
  exact cal_of F (def_ok F sc__law_items len__law_items law_itemsAll fun cdv A outer s H E hr => der__law_items X.fx f cdv A outer s H E hr) hm (F.bindsN fun _ _ _ _ _ _ us hl => match us, hl with | [], _ => rfl)
theorem sc__law_numbers : FnScope ["_law_item", "_law_number"] ["_law_item"] (defScope (top 30)) := ⟨rfl, rfl, rfl, by decide +kernel, rfl, by decide +kernel, by decide +kernel⟩
theorem der__law_numbers (F : Fx C K mg) (f : Addr) (cdv : Value) (A : Around) (outer : List Env) (s : Shared) (H : Hp) (E : XK) (hr : Room 0 (A.deeper (envOfC "_law_numbers" (defScope (top 30)) s.heap.objs.size f cdv))) :
    SXs (cxOf (L2.CX P w) P w K mg base ["_law_item", "_law_number"] "_law_numbers" (defScope (top 30)) f cdv A outer s H E) (V0 C) (WxE E) (defBody (top 30)) w__law_numbers := by
  have tk : Takes (cxOf (L2.CX P w) P w K mg base ["_law_item", "_law_number"] "_law_numbers" (defScope (top 30)) f cdv A outer s H E) (WxE E) := takes_of rfl rfl rfl rfl
  have po := passes_of (X := cxOf (L2.CX P w) P w K mg base ["_law_item", "_law_number"] "_law_numbers" (defScope (top 30)) f cdv A outer s H E) rfl
  have nd := sc__law_numbers.nd
  exact (sxs_one (sx_ret (ex_lc rfl nd [("_law_number", 1)] (ix_range2 F.n_range rfl (ax_cons (EX.rd (ex_ix (ex_var 0) ex_int)) (ax_cons (EX.rd (ex_op o_add (ex_ix (ex_var 0) ex_int) ex_int)) ax_nil))) (blkOk_by (by kernel_rfl)) (fun _ _ _ _ _ => (gx_name 1 nd)) (fun _ _ _ _ _ => (txs_one (tx_cmp (o_eq hr.units) (ex_op o_mod (ex_op o_sub (ex_var 1) (ex_ix (ex_var 0) ex_int)) (ex_ix (ex_var 0) ex_int)) ex_int))) (fun _ _ _ _ _ => (ex_var 1)))))
theorem len__law_numbers : ∀ ds θ N Nx, (sp__law_numbers.up : Spec Unit) ds θ N Nx → ds.length = 1 := by
  intro ds θ N Nx h
  trivial
theorem cal__law_numbers (X : Hx C K mg) : CalD P w K mg base 1 "_law_numbers" (V0 C) sp__law_numbers.up := by
  obtain ⟨f, fd, F, hm⟩ := X.d__law_numbers
  exact cal_of F (def_ok F sc__law_numbers len__law_numbers law_numbers fun cdv A outer s H E hr => der__law_numbers X.fx f cdv A outer s H E hr) hm (F.bindsN fun _ _ _ _ _ _ us hl => match us, hl with | [_], _ => rfl)
theorem sc__law_word : FnScope ["_law_item"] ["_law_item"] (defScope (top 31)) := ⟨rfl, rfl, rfl, by decide +kernel, rfl, by decide +kernel, by decide +kernel⟩
theorem der__law_word (F : Fx C K mg) (f : Addr) (cdv : Value) (A : Around) (outer : List Env) (s : Shared) (H : Hp) (E : XK) (hr : Room 0 (A.deeper (envOfC "_law_word" (defScope (top 31)) s.heap.objs.size f cdv))) :
    SXs (cxOf (L2.CX P w) P w K mg base ["_law_item"] "_law_word" (defScope (top 31)) f cdv A outer s H E) (V0 C) (WxE E) (defBody (top 31)) w__law_word := by
  have tk : Takes (cxOf (L2.CX P w) P w K mg base ["_law_item"] "_law_word" (defScope (top 31)) f cdv A outer s H E) (WxE E) := takes_of rfl rfl rfl rfl
  have po := passes_of (X := cxOf (L2.CX P w) P w K mg base ["_law_item"] "_law_word" (defScope (top 31)) f cdv A outer s H E) rfl
  have nd := sc__law_word.nd
  exact (sxs_cons (sx_if (tx_cmp (o_eq hr.units) (ex_ix (ex_var 0) ex_int) (ex_ix (ex_var 0) ex_int)) (sxs_one (sx_ret (ex_ty b_str F.n_str rfl (ax_cons (EX.rd (ex_ix (ex_var 0) ex_int)) ax_nil)))) sxs_nil) (sxs_one (sx_ret (ex_op o_add (ex_op o_add (ex_op o_add (ex_ty b_str F.n_str rfl (ax_cons (EX.rd (ex_ix (ex_var 0) ex_int)) ax_nil)) ex_str) (ex_ty b_str F.n_str rfl (ax_cons (EX.rd (ex_ix (ex_var 0) ex_int)) ax_nil))) (ex_if (tx_cmp (o_eq hr.units) (ex_ix (ex_var 0) ex_int) ex_int) ex_str (ex_op o_add ex_str (ex_ty b_str F.n_str rfl (ax_cons (EX.rd (ex_ix (ex_var 0) ex_int)) ax_nil))))))))
theorem len__law_word : ∀ ds θ N Nx, (sp__law_word.up : Spec Unit) ds θ N Nx → ds.length = 1 := by
  intro ds θ N Nx h
  trivial
theorem cal__law_word (X : Hx C K mg) : CalD P w K mg base 1 "_law_word" (V0 C) sp__law_word.up := by
  obtain ⟨f, fd, F, hm⟩ := X.d__law_word
  exact cal_of F (def_ok F sc__law_word len__law_word law_word fun cdv A outer s H E hr => der__law_word X.fx f cdv A outer s H E hr) hm (F.bindsN fun _ _ _ _ _ _ us hl => match us, hl with | [_], _ => rfl)
theorem sc_is_set : FnScope ["value", "a", "b", "one"] ["value"] (defScope (top 5)) := ⟨rfl, rfl, rfl, by decide +kernel, rfl, by decide +kernel, by decide +kernel⟩
theorem der_is_set (F : Fx C K mg) (c_is_int : CalD P w K mg base 1 "is_int" (V0 C) sp_is_int.up) (f : Addr) (cdv : Value) (A : Around) (outer : List Env) (s : Shared) (H : Hp) (E : XK) (hr : Room 1 (A.deeper (envOfC "is_set" (defScope (top 5)) s.heap.objs.size f cdv))) :
    SXs (cxOf (L2.CX P w) P w K mg base ["value", "a", "b", "one"] "is_set" (defScope (top 5)) f cdv A outer s H E) (V0 C) (WxE E) (defBody (top 5)) w_is_set := by
  have tk : Takes (cxOf (L2.CX P w) P w K mg base ["value", "a", "b", "one"] "is_set" (defScope (top 5)) f cdv A outer s H E) (WxE E) := takes_of rfl rfl rfl rfl
  have po := passes_of (X := cxOf (L2.CX P w) P w K mg base ["value", "a", "b", "one"] "is_set" (defScope (top 5)) f cdv A outer s H E) rfl
  have nd := sc_is_set.nd
  exact (sxs_cons (sx_if (TW.tx (tw_or (tx_not (tx_val (ex_isi "list" F.n_isinstance F.n_list rfl rfl (ex_var 0)))) (tw_or (tx_cmp (o_eq hr.units) (ex_var 0) (ex_lst ax_nil)) (tw_or1 (tx_not (tx_val (ex_blt (b_all rfl) F.n_all rfl (ax_cons (EX.rd (ex_lc rfl nd [("one", 3)] (ix_list (ex_var 0)) (blkOk_by (by kernel_rfl)) (fun _ _ _ _ _ => (gx_name 3 nd)) (fun _ _ _ _ _ => txs_nil) (fun _ _ _ _ _ => (ex_call0 takes0 c_is_int hr rfl (ax_cons (ex_var 3) (ax_cons ex_int (ax_cons (ex_gint rfl F.most) ax_nil))))))) ax_nil)))))))) (sxs_one (sx_ret ex_bl)) sxs_nil) (sxs_one (sx_ret (ex_blt (b_all rfl) F.n_all rfl (ax_cons (EX.rd (ex_lc rfl nd [("a", 1), ("b", 2)] (ix_zip F.n_zip rfl (ax_cons (ex_var 0) (ax_cons (ex_sl (ex_var 0) (ox_some ex_int) ox_none) ax_nil))) (blkOk_by (by kernel_rfl)) (fun _ _ _ _ _ => (gx_tup rfl (gxs_cons 1 nd (gxs_cons 2 nd gxs_nil)))) (fun _ _ _ _ _ => txs_nil) (fun _ _ _ _ _ => (ex_cmp o_lt (ex_var 1) (ex_var 2))))) ax_nil)))))
theorem len_is_set : ∀ ds θ N Nx, (sp_is_set.up : Spec Unit) ds θ N Nx → ds.length = 1 := by
  intro ds θ N Nx h
  trivial
theorem cal_is_set (X : Hx C K mg) : CalD P w K mg base 2 "is_set" (V0 C) sp_is_set.up := by
  obtain ⟨f, fd, F, hm⟩ := X.d_is_set
  exact cal_of F (def_ok F sc_is_set len_is_set law_is_set fun cdv A outer s H E hr => der_is_set X.fx ((cal_is_int X).mono (by decide)) f cdv A outer s H E hr) hm (F.bindsN fun _ _ _ _ _ _ us hl => match us, hl with | [_], _ => rfl)
theorem sc_is_item : FnScope ["value", "first", "last", "step", "one"] ["value"] (defScope (top 6)) := ⟨rfl, rfl, rfl, by decide +kernel, rfl, by decide +kernel, by decide +kernel⟩
theorem der_is_item (F : Fx C K mg) (c_is_int : CalD P w K mg base 1 "is_int" (V0 C) sp_is_int.up) (f : Addr) (cdv : Value) (A : Around) (outer : List Env) (s : Shared) (H : Hp) (E : XK) (hr : Room 1 (A.deeper (envOfC "is_item" (defScope (top 6)) s.heap.objs.size f cdv))) :
    SXs (cxOf (L2.CX P w) P w K mg base ["value", "first", "last", "step", "one"] "is_item" (defScope (top 6)) f cdv A outer s H E) (V0 C) (WxE E) (defBody (top 6)) w_is_item := by
  have tk : Takes (cxOf (L2.CX P w) P w K mg base ["value", "first", "last", "step", "one"] "is_item" (defScope (top 6)) f cdv A outer s H E) (WxE E) := takes_of rfl rfl rfl rfl
  have po := passes_of (X := cxOf (L2.CX P w) P w K mg base ["value", "first", "last", "step", "one"] "is_item" (defScope (top 6)) f cdv A outer s H E) rfl
  have nd := sc_is_item.nd
  exact (sxs_cons (sx_if (TW.tx (tw_or (tx_not (tx_val (ex_isi "tuple" F.n_isinstance F.n_tuple rfl rfl (ex_var 0)))) (tw_or (tx_cmp (o_ne hr.units) (ex_blt b_len F.n_len rfl (ax_cons (EX.rd (ex_var 0)) ax_nil)) ex_int) (tw_or1 (tx_not (tx_val (ex_blt (b_all rfl) F.n_all rfl (ax_cons (EX.rd (ex_lc rfl nd [("one", 4)] (ix_tuple (ex_var 0)) (blkOk_by (by kernel_rfl)) (fun _ _ _ _ _ => (gx_name 4 nd)) (fun _ _ _ _ _ => txs_nil) (fun _ _ _ _ _ => (ex_call0 takes0 c_is_int hr rfl (ax_cons (ex_var 4) (ax_cons ex_int (ax_cons (ex_gint rfl F.most) ax_nil))))))) ax_nil)))))))) (sxs_one (sx_ret ex_bl)) sxs_nil) (sxs_cons (sx_unp (ex_var 0) (gx_tup rfl (gxs_cons 1 nd (gxs_cons 2 nd (gxs_cons 3 nd gxs_nil))))) (sxs_cons (sx_if (tx_cmp (o_eq hr.units) (ex_var 1) (ex_var 2)) (sxs_one (sx_ret (ex_cmp (o_eq hr.units) (ex_var 3) ex_int))) sxs_nil) (sxs_one (sx_ret (ex_and (ex_cmp o_lt (ex_var 1) (ex_var 2)) (ex_one (ex_cmp (o_eq hr.units) (ex_op o_mod (ex_op o_sub (ex_var 2) (ex_var 1)) (ex_var 3)) ex_int))))))))
theorem len_is_item : ∀ ds θ N Nx, (sp_is_item.up : Spec Unit) ds θ N Nx → ds.length = 1 := by
  intro ds θ N Nx h
  trivial
theorem cal_is_item (X : Hx C K mg) : CalD P w K mg base 2 "is_item" (V0 C) sp_is_item.up := by
  obtain ⟨f, fd, F, hm⟩ := X.d_is_item
  exact cal_of F (def_ok F sc_is_item len_is_item law_is_item fun cdv A outer s H E hr => der_is_item X.fx ((cal_is_int X).mono (by decide)) f cdv A outer s H E hr) hm (F.bindsN fun _ _ _ _ _ _ us hl => match us, hl with | [_], _ => rfl)
theorem sc_set_of : FnScope ["items", "found", "item"] ["items"] (defScope (top 15)) := ⟨rfl, rfl, rfl, by decide +kernel, rfl, by decide +kernel, by decide +kernel⟩
theorem der_set_of (F : Fx C K mg) (c_numbers_of : CalD P w K mg base 1 "numbers_of" (V0 C) sp_numbers_of.up) (f : Addr) (cdv : Value) (A : Around) (outer : List Env) (s : Shared) (H : Hp) (E : XK) (hr : Room 1 (A.deeper (envOfC "set_of" (defScope (top 15)) s.heap.objs.size f cdv))) :
    SXs (cxOf (L2.CX P w) P w K mg base ["items", "found", "item"] "set_of" (defScope (top 15)) f cdv A outer s H E) (V0 C) (WxE E) (defBody (top 15)) w_set_of := by
  have tk : Takes (cxOf (L2.CX P w) P w K mg base ["items", "found", "item"] "set_of" (defScope (top 15)) f cdv A outer s H E) (WxE E) := takes_of rfl rfl rfl rfl
  have po := passes_of (X := cxOf (L2.CX P w) P w K mg base ["items", "found", "item"] "set_of" (defScope (top 15)) f cdv A outer s H E) rfl
  have nd := sc_set_of.nd
  exact (sxs_cons (sx_new 1 nd) (sxs_cons (sx_for po rfl (ix_list (ex_var 0)) (gx_name 2 nd) (sxs_one (sx_extend 1 nd (ex_call0 tk c_numbers_of hr rfl (ax_cons (ex_var 2) ax_nil))))) (sxs_frz 1 (sxs_one (sx_ret (ex_sortSet rfl F.n_sorted F.n_set rfl rfl (ex_var 1)))))))
theorem len_set_of : ∀ ds θ N Nx, (sp_set_of.up : Spec Unit) ds θ N Nx → ds.length = 1 := by
  intro ds θ N Nx h
  trivial
theorem cal_set_of (X : Hx C K mg) : CalD P w K mg base 2 "set_of" (V0 C) sp_set_of.up := by
  obtain ⟨f, fd, F, hm⟩ := X.d_set_of
  exact cal_of F (def_ok F sc_set_of len_set_of law_set_of fun cdv A outer s H E hr => der_set_of X.fx ((cal_numbers_of X).mono (by decide)) f cdv A outer s H E hr) hm (F.bindsN fun _ _ _ _ _ _ us hl => match us, hl with | [_], _ => rfl)
theorem sc__law_pick : FnScope ["_law_draws", "_law_choices"] ["_law_draws", "_law_choices"] (defScope (top 27)) := ⟨rfl, rfl, rfl, by decide +kernel, rfl, by decide +kernel, by decide +kernel⟩
theorem der__law_pick (F : Fx C K mg) (c__law_draw : CalD P w K mg base 1 "_law_draw" (VD K C) spd_draw) (f : Addr) (cdv : Value) (A : Around) (outer : List Env) (s : Shared) (H : Hp) (E : XK) (hr : Room 1 (A.deeper (envOfC "_law_pick" (defScope (top 27)) s.heap.objs.size f cdv))) :
    SXs (cxOf (L2.CX P w) P w K mg base ["_law_draws", "_law_choices"] "_law_pick" (defScope (top 27)) f cdv A outer s H E) (VD K C) (WxE E) (defBody (top 27)) w__law_pick := by
  have tk : Takes (cxOf (L2.CX P w) P w K mg base ["_law_draws", "_law_choices"] "_law_pick" (defScope (top 27)) f cdv A outer s H E) (WxE E) := takes_of rfl rfl rfl rfl
  have po := passes_of (X := cxOf (L2.CX P w) P w K mg base ["_law_draws", "_law_choices"] "_law_pick" (defScope (top 27)) f cdv A outer s H E) rfl
  have nd := sc__law_pick.nd
  exact (sxs_one (sx_ret (ex_ix (ex_var 1) (ex_call tk c__law_draw hr rfl (ax_cons (ex_var 0) (ax_cons (ex_blt b_len F.n_len rfl (ax_cons (EX.rd (ex_var 1)) ax_nil)) ax_nil))))))
theorem len__law_pick : ∀ ds θ N Nx, (spd_pick : Spec DrawSt) ds θ N Nx → ds.length = 2 := by
  intro ds θ N Nx h
  trivial
theorem cal__law_pick (X : Hx C K mg) : CalD P w K mg base 2 "_law_pick" (VD K C) spd_pick := by
  obtain ⟨f, fd, F, hm⟩ := X.d__law_pick
  exact cal_of F (def_ok F sc__law_pick len__law_pick law_pick fun cdv A outer s H E hr => der__law_pick X.fx ((cal__law_draw X).mono (by decide)) f cdv A outer s H E hr) hm (F.bindsN fun _ _ _ _ _ _ us hl => match us, hl with | [_, _], _ => rfl)
theorem sc__law_meant : FnScope ["_law_some", "_law_found", "_law_item"] ["_law_some"] (defScope (top 33)) := ⟨rfl, rfl, rfl, by decide +kernel, rfl, by decide +kernel, by decide +kernel⟩
theorem der__law_meant (F : Fx C K mg) (c__law_numbers : CalD P w K mg base 1 "_law_numbers" (V0 C) sp__law_numbers.up) (f : Addr) (cdv : Value) (A : Around) (outer : List Env) (s : Shared) (H : Hp) (E : XK) (hr : Room 1 (A.deeper (envOfC "_law_meant" (defScope (top 33)) s.heap.objs.size f cdv))) :
    SXs (cxOf (L2.CX P w) P w K mg base ["_law_some", "_law_found", "_law_item"] "_law_meant" (defScope (top 33)) f cdv A outer s H E) (V0 C) (WxE E) (defBody (top 33)) w__law_meant := by
  have tk : Takes (cxOf (L2.CX P w) P w K mg base ["_law_some", "_law_found", "_law_item"] "_law_meant" (defScope (top 33)) f cdv A outer s H E) (WxE E) := takes_of rfl rfl rfl rfl
  have po := passes_of (X := cxOf (L2.CX P w) P w K mg base ["_law_some", "_law_found", "_law_item"] "_law_meant" (defScope (top 33)) f cdv A outer s H E) rfl
  have nd := sc__law_meant.nd
  exact (sxs_cons (sx_set 1 nd (ex_lst ax_nil)) (sxs_cons (sx_for po rfl (ix_list (ex_var 0)) (gx_name 2 nd) (sxs_one (sx_set 1 nd (ex_op o_add (ex_var 1) (ex_call0 tk c__law_numbers hr rfl (ax_cons (ex_var 2) ax_nil)))))) (sxs_one (sx_ret (ex_sortSet rfl F.n_sorted F.n_set rfl rfl (ex_var 1))))))
theorem len__law_meant : ∀ ds θ N Nx, (sp__law_meant.up : Spec Unit) ds θ N Nx → ds.length = 1 := by
  intro ds θ N Nx h
  trivial
theorem cal__law_meant (X : Hx C K mg) : CalD P w K mg base 2 "_law_meant" (V0 C) sp__law_meant.up := by
  obtain ⟨f, fd, F, hm⟩ := X.d__law_meant
  exact cal_of F (def_ok F sc__law_meant len__law_meant law_meant fun cdv A outer s H E hr => der__law_meant X.fx ((cal__law_numbers X).mono (by decide)) f cdv A outer s H E hr) hm (F.bindsN fun _ _ _ _ _ _ us hl => match us, hl with | [_], _ => rfl)
theorem sc_item_in : FnScope ["text", "step", "found", "head", "slash", "tail", "first", "dash", "last"] ["text"] (defScope (top 12)) := ⟨rfl, rfl, rfl, by decide +kernel, rfl, by decide +kernel, by decide +kernel⟩
theorem der_item_in (F : Fx C K mg) (c_number_in : CalD P w K mg base 2 "number_in" (V0 C) sp_number_in.up) (c_is_item : CalD P w K mg base 2 "is_item" (V0 C) sp_is_item.up) (c_text_of : CalD P w K mg base 2 "text_of" (V0 C) sp_text_of.up) (f : Addr) (cdv : Value) (A : Around) (outer : List Env) (s : Shared) (H : Hp) (E : XK) (hr : Room 2 (A.deeper (envOfC "item_in" (defScope (top 12)) s.heap.objs.size f cdv))) :
    SXs (cxOf (L2.CX P w) P w K mg base ["text", "step", "found", "head", "slash", "tail", "first", "dash", "last"] "item_in" (defScope (top 12)) f cdv A outer s H E) (V0 C) (WxE E) (defBody (top 12)) w_item_in := by
  have tk : Takes (cxOf (L2.CX P w) P w K mg base ["text", "step", "found", "head", "slash", "tail", "first", "dash", "last"] "item_in" (defScope (top 12)) f cdv A outer s H E) (WxE E) := takes_of rfl rfl rfl rfl
  have po := passes_of (X := cxOf (L2.CX P w) P w K mg base ["text", "step", "found", "head", "slash", "tail", "first", "dash", "last"] "item_in" (defScope (top 12)) f cdv A outer s H E) rfl
  have nd := sc_item_in.nd
  exact (sxs_cons (sx_unp (ex_part (ex_var 0) ex_str) (gx_tup rfl (gxs_cons 3 nd (gxs_cons 4 nd (gxs_cons 5 nd gxs_nil))))) (sxs_cons (sx_unp (ex_part (ex_var 3) ex_str) (gx_tup rfl (gxs_cons 6 nd (gxs_cons 7 nd (gxs_cons 8 nd gxs_nil))))) (sxs_cons (sx_if (TW.tx (tw_and (tx_cmp (o_ne hr.units) (ex_var 4) ex_str) (tw_and1 (TW.tx (tw_or (tx_cmp (o_eq hr.units) (ex_var 7) ex_str) (tw_or1 (tx_cmp o_lt (ex_call0 tk c_number_in hr rfl (ax_cons (ex_var 5) ax_nil)) ex_int))))))) (sxs_one (sx_ret ex_non)) sxs_nil) (sxs_cons (sx_set 1 nd (ex_if (tx_cmp (o_ne hr.units) (ex_var 4) ex_str) (ex_call0 tk c_number_in hr rfl (ax_cons (ex_var 5) ax_nil)) ex_int)) (sxs_cons (sx_set 2 nd (ex_tup (ax_cons (ex_call0 tk c_number_in hr rfl (ax_cons (ex_var 6) ax_nil)) (ax_cons (ex_call0 tk c_number_in hr rfl (ax_cons (ex_if (tx_cmp (o_ne hr.units) (ex_var 7) ex_str) (ex_var 8) (ex_var 6)) ax_nil)) (ax_cons (ex_var 1) ax_nil))))) (sxs_cons (sx_if (TW.tx (tw_or (tx_not (tx_val (ex_call0 tk c_is_item hr rfl (ax_cons (ex_var 2) ax_nil)))) (tw_or1 (tx_cmp (o_ne hr.units) (ex_call0 tk c_text_of hr rfl (ax_cons (ex_var 2) ax_nil)) (ex_var 0))))) (sxs_one (sx_ret ex_non)) sxs_nil) (sxs_one (sx_ret (ex_var 2)))))))))
theorem len_item_in : ∀ ds θ N Nx, (sp_item_in.up : Spec Unit) ds θ N Nx → ds.length = 1 := by
  intro ds θ N Nx h
  trivial
theorem cal_item_in (X : Hx C K mg) : CalD P w K mg base 3 "item_in" (V0 C) sp_item_in.up := by
  obtain ⟨f, fd, F, hm⟩ := X.d_item_in
  exact cal_of F (def_ok F sc_item_in len_item_in law_item_in fun cdv A outer s H E hr => der_item_in X.fx ((cal_number_in X).mono (by decide)) ((cal_is_item X).mono (by decide)) ((cal_text_of X).mono (by decide)) f cdv A outer s H E hr) hm (F.bindsN fun _ _ _ _ _ _ us hl => match us, hl with | [_], _ => rfl)
theorem sc__law_text : FnScope ["_law_draws", "_law_most", "_law_every", "_law_k"] ["_law_draws", "_law_most"] (defScope (top 32)) := ⟨rfl, rfl, rfl, by decide +kernel, rfl, by decide +kernel, by decide +kernel⟩
theorem der__law_text (F : Fx C K mg) (c__law_items : CalD P w K mg base 2 "_law_items" (V0 C) sp__law_items.up) (c__law_draw : CalD P w K mg base 2 "_law_draw" (VD K C) spd_draw) (c__law_pick : CalD P w K mg base 2 "_law_pick" (VD K C) spd_pick) (f : Addr) (cdv : Value) (A : Around) (outer : List Env) (s : Shared) (H : Hp) (E : XK) (hr : Room 2 (A.deeper (envOfC "_law_text" (defScope (top 32)) s.heap.objs.size f cdv))) :
    SXs (cxOf (L2.CX P w) P w K mg base ["_law_draws", "_law_most", "_law_every", "_law_k"] "_law_text" (defScope (top 32)) f cdv A outer s H E) (VD K C) (WxE E) (defBody (top 32)) w__law_text := by
  have tk : Takes (cxOf (L2.CX P w) P w K mg base ["_law_draws", "_law_most", "_law_every", "_law_k"] "_law_text" (defScope (top 32)) f cdv A outer s H E) (WxE E) := takes_of rfl rfl rfl rfl
  have po := passes_of (X := cxOf (L2.CX P w) P w K mg base ["_law_draws", "_law_most", "_law_every", "_law_k"] "_law_text" (defScope (top 32)) f cdv A outer s H E) rfl
  have nd := sc__law_text.nd
  exact (sxs_cons (sx_set 2 nd (ex_callN0 tk c__law_items hr rfl)) (sxs_one (sx_ret (ex_lc rfl nd [("_law_k", 3)] (ix_range1 F.n_range rfl (ax_cons (EX.rd (ex_op o_add ex_int (ex_call tk c__law_draw hr rfl (ax_cons (ex_var 0) (ax_cons (ex_var 1) ax_nil))))) ax_nil)) (blkOk_by (by kernel_rfl)) (fun _ _ _ _ _ => (gx_name 3 nd)) (fun _ _ _ _ _ => txs_nil) (fun _ _ _ _ _ => (ex_call takes0 c__law_pick hr rfl (ax_cons (ex_var 0) (ax_cons (ex_var 2) ax_nil))))))))
theorem len__law_text : ∀ ds θ N Nx, (spd_text : Spec DrawSt) ds θ N Nx → ds.length = 2 := by
  intro ds θ N Nx h
  trivial
theorem cal__law_text (X : Hx C K mg) : CalD P w K mg base 3 "_law_text" (VD K C) spd_text := by
  obtain ⟨f, fd, F, hm⟩ := X.d__law_text
  exact cal_of F (def_ok F sc__law_text len__law_text law_text fun cdv A outer s H E hr => der__law_text X.fx ((cal__law_items X).mono (by decide)) ((cal__law_draw X).mono (by decide)) ((cal__law_pick X).mono (by decide)) f cdv A outer s H E hr) hm (F.bindsN fun _ _ _ _ _ _ us hl => match us, hl with | [_, _], _ => rfl)
theorem sc_items_in : FnScope ["text", "found", "part"] ["text"] (defScope (top 14)) := ⟨rfl, rfl, rfl, by decide +kernel, rfl, by decide +kernel, by decide +kernel⟩
theorem der_items_in (F : Fx C K mg) (c_item_in : CalD P w K mg base 3 "item_in" (V0 C) sp_item_in.up) (f : Addr) (cdv : Value) (A : Around) (outer : List Env) (s : Shared) (H : Hp) (E : XK) (hr : Room 3 (A.deeper (envOfC "items_in" (defScope (top 14)) s.heap.objs.size f cdv))) :
    SXs (cxOf (L2.CX P w) P w K mg base ["text", "found", "part"] "items_in" (defScope (top 14)) f cdv A outer s H E) (V0 C) (WxE E) (defBody (top 14)) w_items_in := by
  have tk : Takes (cxOf (L2.CX P w) P w K mg base ["text", "found", "part"] "items_in" (defScope (top 14)) f cdv A outer s H E) (WxE E) := takes_of rfl rfl rfl rfl
  have po := passes_of (X := cxOf (L2.CX P w) P w K mg base ["text", "found", "part"] "items_in" (defScope (top 14)) f cdv A outer s H E) rfl
  have nd := sc_items_in.nd
  exact (sxs_cons (sx_if (tx_not (tx_val (ex_isi "str" F.n_isinstance F.n_str rfl rfl (ex_var 0)))) (sxs_one (sx_ret ex_non)) sxs_nil) (sxs_cons (sx_setLc 1 rfl nd [("part", 2)] (ix_list (ex_split (ex_var 0) ex_str)) (blkOk_by (by kernel_rfl)) (fun _ _ _ _ _ => (gx_name 2 nd)) (fun _ _ _ _ _ => txs_nil) (fun _ _ _ _ _ => (ex_call0 takes0 c_item_in hr rfl (ax_cons (ex_var 2) ax_nil))) (sw_true rfl rfl rfl (by decide +kernel))) (sxs_one (sx_ret (ex_if (tx_cmp (o_ni hr.u65) ex_non (ex_var 1)) (ex_var 1) ex_non)))))
theorem len_items_in : ∀ ds θ N Nx, (sp_items_in.up : Spec Unit) ds θ N Nx → ds.length = 1 := by
  intro ds θ N Nx h
  trivial
theorem cal_items_in (X : Hx C K mg) : CalD P w K mg base 4 "items_in" (V0 C) sp_items_in.up := by
  obtain ⟨f, fd, F, hm⟩ := X.d_items_in
  exact cal_of F (def_ok F sc_items_in len_items_in law_items_in fun cdv A outer s H E hr => der_items_in X.fx ((cal_item_in X).mono (by decide)) f cdv A outer s H E hr) hm (F.bindsN fun _ _ _ _ _ _ us hl => match us, hl with | [_], _ => rfl)
theorem sc_first_fault : FnScope ["text", "place", "part"] ["text"] (defScope (top 20)) := ⟨rfl, rfl, rfl, by decide +kernel, rfl, by decide +kernel, by decide +kernel⟩
theorem der_first_fault (F : Fx C K mg) (c_item_in : CalD P w K mg base 3 "item_in" (V0 C) sp_item_in.up) (f : Addr) (cdv : Value) (A : Around) (outer : List Env) (s : Shared) (H : Hp) (E : XK) (hr : Room 3 (A.deeper (envOfC "first_fault" (defScope (top 20)) s.heap.objs.size f cdv))) :
    SXs (cxOf (L2.CX P w) P w K mg base ["text", "place", "part"] "first_fault" (defScope (top 20)) f cdv A outer s H E) (V0 C) (WxE E) (defBody (top 20)) w_first_fault := by
  have tk : Takes (cxOf (L2.CX P w) P w K mg base ["text", "place", "part"] "first_fault" (defScope (top 20)) f cdv A outer s H E) (WxE E) := takes_of rfl rfl rfl rfl
  have po := passes_of (X := cxOf (L2.CX P w) P w K mg base ["text", "place", "part"] "first_fault" (defScope (top 20)) f cdv A outer s H E) rfl
  have nd := sc_first_fault.nd
  exact (sxs_cons (sx_if (tx_not (tx_val (ex_isi "str" F.n_isinstance F.n_str rfl rfl (ex_var 0)))) (sxs_one (sx_raise .text rfl tk F.x_text rfl)) sxs_nil) (sxs_cons (sx_for po rfl (ix_enum F.n_enumerate rfl (ax_cons (ex_split (ex_var 0) ex_str) ax_nil)) (gx_tup rfl (gxs_cons 1 nd (gxs_cons 2 nd gxs_nil))) (sxs_one (sx_if (tx_cmp o_is (ex_call0 tk c_item_in hr rfl (ax_cons (ex_var 2) ax_nil)) ex_non) (sxs_one (sx_ret (ex_var 1))) sxs_nil))) (sxs_one (sx_ret ex_non))))
theorem len_first_fault : ∀ ds θ N Nx, (sp_first_fault.up : Spec Unit) ds θ N Nx → ds.length = 1 := by
  intro ds θ N Nx h
  trivial
theorem cal_first_fault (X : Hx C K mg) : CalD P w K mg base 4 "first_fault" (V0 C) sp_first_fault.up := by
  obtain ⟨f, fd, F, hm⟩ := X.d_first_fault
  exact cal_of F (def_ok F sc_first_fault len_first_fault law_first_fault fun cdv A outer s H E hr => der_first_fault X.fx ((cal_item_in X).mono (by decide)) f cdv A outer s H E hr) hm (F.bindsN fun _ _ _ _ _ _ us hl => match us, hl with | [_], _ => rfl)
theorem sc_check_text : FnScope ["text"] ["text"] (defScope (top 16)) := ⟨rfl, rfl, rfl, by decide +kernel, rfl, by decide +kernel, by decide +kernel⟩
theorem der_check_text (F : Fx C K mg) (c_items_in : CalD P w K mg base 4 "items_in" (V0 C) sp_items_in.up) (f : Addr) (cdv : Value) (A : Around) (outer : List Env) (s : Shared) (H : Hp) (E : XK) (hr : Room 4 (A.deeper (envOfC "check_text" (defScope (top 16)) s.heap.objs.size f cdv))) :
    SXs (cxOf (L2.CX P w) P w K mg base ["text"] "check_text" (defScope (top 16)) f cdv A outer s H E) (V0 C) (WxE E) (defBody (top 16)) w_check_text := by
  have tk : Takes (cxOf (L2.CX P w) P w K mg base ["text"] "check_text" (defScope (top 16)) f cdv A outer s H E) (WxE E) := takes_of rfl rfl rfl rfl
  have po := passes_of (X := cxOf (L2.CX P w) P w K mg base ["text"] "check_text" (defScope (top 16)) f cdv A outer s H E) rfl
  have nd := sc_check_text.nd
  exact (sxs_one (sx_if (tx_cmp o_is (ex_call0 tk c_items_in hr rfl (ax_cons (ex_var 0) ax_nil)) ex_non) (sxs_one (sx_raise .text rfl tk F.x_text rfl)) sxs_nil))
theorem len_check_text : ∀ ds θ N Nx, (sp_check_text.up : Spec Unit) ds θ N Nx → ds.length = 1 := by
  intro ds θ N Nx h
  trivial
theorem cal_check_text (X : Hx C K mg) : CalD P w K mg base 5 "check_text" (V0 C) sp_check_text.up := by
  obtain ⟨f, fd, F, hm⟩ := X.d_check_text
  exact cal_of F (def_ok F sc_check_text len_check_text law_check_text fun cdv A outer s H E hr => der_check_text X.fx ((cal_items_in X).mono (by decide)) f cdv A outer s H E hr) hm (F.bindsN fun _ _ _ _ _ _ us hl => match us, hl with | [_], _ => rfl)
theorem sc_is_text : FnScope ["text"] ["text"] (defScope (top 17)) := ⟨rfl, rfl, rfl, by decide +kernel, rfl, by decide +kernel, by decide +kernel⟩
theorem der_is_text (F : Fx C K mg) (c_items_in : CalD P w K mg base 4 "items_in" (V0 C) sp_items_in.up) (f : Addr) (cdv : Value) (A : Around) (outer : List Env) (s : Shared) (H : Hp) (E : XK) (hr : Room 4 (A.deeper (envOfC "is_text" (defScope (top 17)) s.heap.objs.size f cdv))) :
    SXs (cxOf (L2.CX P w) P w K mg base ["text"] "is_text" (defScope (top 17)) f cdv A outer s H E) (V0 C) (WxE E) (defBody (top 17)) w_is_text := by
  have tk : Takes (cxOf (L2.CX P w) P w K mg base ["text"] "is_text" (defScope (top 17)) f cdv A outer s H E) (WxE E) := takes_of rfl rfl rfl rfl
  have po := passes_of (X := cxOf (L2.CX P w) P w K mg base ["text"] "is_text" (defScope (top 17)) f cdv A outer s H E) rfl
  have nd := sc_is_text.nd
  exact (sxs_one (sx_ret (ex_cmp o_isN (ex_call0 tk c_items_in hr rfl (ax_cons (ex_var 0) ax_nil)) ex_non)))
theorem len_is_text : ∀ ds θ N Nx, (sp_is_text.up : Spec Unit) ds θ N Nx → ds.length = 1 := by
  intro ds θ N Nx h
  trivial
theorem cal_is_text (X : Hx C K mg) : CalD P w K mg base 5 "is_text" (V0 C) sp_is_text.up := by
  obtain ⟨f, fd, F, hm⟩ := X.d_is_text
  exact cal_of F (def_ok F sc_is_text len_is_text law_is_text fun cdv A outer s H E hr => der_is_text X.fx ((cal_items_in X).mono (by decide)) f cdv A outer s H E hr) hm (F.bindsN fun _ _ _ _ _ _ us hl => match us, hl with | [_], _ => rfl)
theorem sc_parse : FnScope ["text"] ["text"] (defScope (top 18)) := ⟨rfl, rfl, rfl, by decide +kernel, rfl, by decide +kernel, by decide +kernel⟩
theorem der_parse (F : Fx C K mg) (c_check_text : CalD P w K mg base 5 "check_text" (V0 C) sp_check_text.up) (c_set_of : CalD P w K mg base 5 "set_of" (V0 C) sp_set_of.up) (c_items_in : CalD P w K mg base 5 "items_in" (V0 C) sp_items_in.up) (f : Addr) (cdv : Value) (A : Around) (outer : List Env) (s : Shared) (H : Hp) (E : XK) (hr : Room 5 (A.deeper (envOfC "parse" (defScope (top 18)) s.heap.objs.size f cdv))) :
    SXs (cxOf (L2.CX P w) P w K mg base ["text"] "parse" (defScope (top 18)) f cdv A outer s H E) (V0 C) (WxE E) (defBody (top 18)) w_parse := by
  have tk : Takes (cxOf (L2.CX P w) P w K mg base ["text"] "parse" (defScope (top 18)) f cdv A outer s H E) (WxE E) := takes_of rfl rfl rfl rfl
  have po := passes_of (X := cxOf (L2.CX P w) P w K mg base ["text"] "parse" (defScope (top 18)) f cdv A outer s H E) rfl
  have nd := sc_parse.nd
  exact (sxs_cons (sx_expr (ex_call0 tk c_check_text hr rfl (ax_cons (ex_var 0) ax_nil))) (sxs_one (sx_ret (ex_call0 tk c_set_of hr rfl (ax_cons (ex_call0 tk c_items_in hr rfl (ax_cons (ex_var 0) ax_nil)) ax_nil)))))
theorem len_parse : ∀ ds θ N Nx, (sp_parse.up : Spec Unit) ds θ N Nx → ds.length = 1 := by
  intro ds θ N Nx h
  trivial
theorem cal_parse (X : Hx C K mg) : CalD P w K mg base 6 "parse" (V0 C) sp_parse.up := by
  obtain ⟨f, fd, F, hm⟩ := X.d_parse
  exact cal_of F (def_ok F sc_parse len_parse law_parse fun cdv A outer s H E hr => der_parse X.fx ((cal_check_text X).mono (by decide)) ((cal_set_of X).mono (by decide)) ((cal_items_in X).mono (by decide)) f cdv A outer s H E hr) hm (F.bindsN fun _ _ _ _ _ _ us hl => match us, hl with | [_], _ => rfl)
theorem sc_items : FnScope ["text"] ["text"] (defScope (top 19)) := ⟨rfl, rfl, rfl, by decide +kernel, rfl, by decide +kernel, by decide +kernel⟩
theorem der_items (F : Fx C K mg) (c_check_text : CalD P w K mg base 5 "check_text" (V0 C) sp_check_text.up) (c_items_in : CalD P w K mg base 5 "items_in" (V0 C) sp_items_in.up) (f : Addr) (cdv : Value) (A : Around) (outer : List Env) (s : Shared) (H : Hp) (E : XK) (hr : Room 5 (A.deeper (envOfC "items" (defScope (top 19)) s.heap.objs.size f cdv))) :
    SXs (cxOf (L2.CX P w) P w K mg base ["text"] "items" (defScope (top 19)) f cdv A outer s H E) (V0 C) (WxE E) (defBody (top 19)) w_items := by
  have tk : Takes (cxOf (L2.CX P w) P w K mg base ["text"] "items" (defScope (top 19)) f cdv A outer s H E) (WxE E) := takes_of rfl rfl rfl rfl
  have po := passes_of (X := cxOf (L2.CX P w) P w K mg base ["text"] "items" (defScope (top 19)) f cdv A outer s H E) rfl
  have nd := sc_items.nd
  exact (sxs_cons (sx_expr (ex_call0 tk c_check_text hr rfl (ax_cons (ex_var 0) ax_nil))) (sxs_one (sx_ret (ex_call0 tk c_items_in hr rfl (ax_cons (ex_var 0) ax_nil)))))
theorem len_items : ∀ ds θ N Nx, (sp_items.up : Spec Unit) ds θ N Nx → ds.length = 1 := by
  intro ds θ N Nx h
  trivial
theorem cal_items (X : Hx C K mg) : CalD P w K mg base 6 "items" (V0 C) sp_items.up := by
  obtain ⟨f, fd, F, hm⟩ := X.d_items
  exact cal_of F (def_ok F sc_items len_items law_items fun cdv A outer s H E hr => der_items X.fx ((cal_check_text X).mono (by decide)) ((cal_items_in X).mono (by decide)) f cdv A outer s H E hr) hm (F.bindsN fun _ _ _ _ _ _ us hl => match us, hl with | [_], _ => rfl)
theorem sc_mean_same : FnScope ["text", "other"] ["text", "other"] (defScope (top 21)) := ⟨rfl, rfl, rfl, by decide +kernel, rfl, by decide +kernel, by decide +kernel⟩
theorem der_mean_same (F : Fx C K mg) (c_check_text : CalD P w K mg base 5 "check_text" (V0 C) sp_check_text.up) (c_set_of : CalD P w K mg base 5 "set_of" (V0 C) sp_set_of.up) (c_items_in : CalD P w K mg base 5 "items_in" (V0 C) sp_items_in.up) (f : Addr) (cdv : Value) (A : Around) (outer : List Env) (s : Shared) (H : Hp) (E : XK) (hr : Room 5 (A.deeper (envOfC "mean_same" (defScope (top 21)) s.heap.objs.size f cdv))) :
    SXs (cxOf (L2.CX P w) P w K mg base ["text", "other"] "mean_same" (defScope (top 21)) f cdv A outer s H E) (V0 C) (WxE E) (defBody (top 21)) w_mean_same := by
  have tk : Takes (cxOf (L2.CX P w) P w K mg base ["text", "other"] "mean_same" (defScope (top 21)) f cdv A outer s H E) (WxE E) := takes_of rfl rfl rfl rfl
  have po := passes_of (X := cxOf (L2.CX P w) P w K mg base ["text", "other"] "mean_same" (defScope (top 21)) f cdv A outer s H E) rfl
  have nd := sc_mean_same.nd
  exact (sxs_cons (sx_expr (ex_call0 tk c_check_text hr rfl (ax_cons (ex_var 0) ax_nil))) (sxs_cons (sx_expr (ex_call0 tk c_check_text hr rfl (ax_cons (ex_var 1) ax_nil))) (sxs_one (sx_ret (ex_cmp (o_eq hr.units) (ex_call0 tk c_set_of hr rfl (ax_cons (ex_call0 tk c_items_in hr rfl (ax_cons (ex_var 0) ax_nil)) ax_nil)) (ex_call0 tk c_set_of hr rfl (ax_cons (ex_call0 tk c_items_in hr rfl (ax_cons (ex_var 1) ax_nil)) ax_nil)))))))
theorem len_mean_same : ∀ ds θ N Nx, (sp_mean_same.up : Spec Unit) ds θ N Nx → ds.length = 2 := by
  intro ds θ N Nx h
  trivial
theorem cal_mean_same (X : Hx C K mg) : CalD P w K mg base 6 "mean_same" (V0 C) sp_mean_same.up := by
  obtain ⟨f, fd, F, hm⟩ := X.d_mean_same
  exact cal_of F (def_ok F sc_mean_same len_mean_same law_mean_same fun cdv A outer s H E hr => der_mean_same X.fx ((cal_check_text X).mono (by decide)) ((cal_set_of X).mono (by decide)) ((cal_items_in X).mono (by decide)) f cdv A outer s H E hr) hm (F.bindsN fun _ _ _ _ _ _ us hl => match us, hl with | [_, _], _ => rfl)
theorem sc_needless : FnScope ["text", "every", "found", "place", "item", "rest"] ["text"] (defScope (top 22)) := ⟨rfl, rfl, rfl, by decide +kernel, rfl, by decide +kernel, by decide +kernel⟩
theorem der_needless (F : Fx C K mg) (c_check_text : CalD P w K mg base 5 "check_text" (V0 C) sp_check_text.up) (c_items_in : CalD P w K mg base 5 "items_in" (V0 C) sp_items_in.up) (c_set_of : CalD P w K mg base 5 "set_of" (V0 C) sp_set_of.up) (f : Addr) (cdv : Value) (A : Around) (outer : List Env) (s : Shared) (H : Hp) (E : XK) (hr : Room 5 (A.deeper (envOfC "needless" (defScope (top 22)) s.heap.objs.size f cdv))) :
    SXs (cxOf (L2.CX P w) P w K mg base ["text", "every", "found", "place", "item", "rest"] "needless" (defScope (top 22)) f cdv A outer s H E) (V0 C) (WxE E) (defBody (top 22)) w_needless := by
  have tk : Takes (cxOf (L2.CX P w) P w K mg base ["text", "every", "found", "place", "item", "rest"] "needless" (defScope (top 22)) f cdv A outer s H E) (WxE E) := takes_of rfl rfl rfl rfl
  have po := passes_of (X := cxOf (L2.CX P w) P w K mg base ["text", "every", "found", "place", "item", "rest"] "needless" (defScope (top 22)) f cdv A outer s H E) rfl
  have nd := sc_needless.nd
  exact (sxs_cons (sx_expr (ex_call0 tk c_check_text hr rfl (ax_cons (ex_var 0) ax_nil))) (sxs_cons (sx_set 1 nd (ex_call0 tk c_items_in hr rfl (ax_cons (ex_var 0) ax_nil))) (sxs_cons (sx_new 2 nd) (sxs_cons (sx_for po rfl (ix_enum F.n_enumerate rfl (ax_cons (ex_var 1) ax_nil)) (gx_tup rfl (gxs_cons 3 nd (gxs_cons 4 nd gxs_nil))) (sxs_cons (sx_set 5 nd (ex_op o_add (ex_sl (ex_var 1) ox_none (ox_some (ex_var 3))) (ex_sl (ex_var 1) (ox_some (ex_op o_add (ex_var 3) ex_int)) ox_none))) (sxs_one (sx_if (TW.tx (tw_and (tx_cmp (o_ne hr.units) (ex_var 5) (ex_lst ax_nil)) (tw_and1 (tx_cmp (o_eq hr.units) (ex_call0 tk c_set_of hr rfl (ax_cons (ex_var 5) ax_nil)) (ex_call0 tk c_set_of hr rfl (ax_cons (ex_var 1) ax_nil)))))) (sxs_one (sx_append 2 (ex_var 3))) sxs_nil)))) (sxs_frz 2 (sxs_one (sx_ret (ex_var 2))))))))
theorem len_needless : ∀ ds θ N Nx, (sp_needless.up : Spec Unit) ds θ N Nx → ds.length = 1 := by
  intro ds θ N Nx h
  trivial
theorem cal_needless (X : Hx C K mg) : CalD P w K mg base 6 "needless" (V0 C) sp_needless.up := by
  obtain ⟨f, fd, F, hm⟩ := X.d_needless
  exact cal_of F (def_ok F sc_needless len_needless law_needless fun cdv A outer s H E hr => der_needless X.fx ((cal_check_text X).mono (by decide)) ((cal_items_in X).mono (by decide)) ((cal_set_of X).mono (by decide)) f cdv A outer s H E hr) hm (F.bindsN fun _ _ _ _ _ _ us hl => match us, hl with | [_], _ => rfl)
theorem sc_covered_times : FnScope ["text", "every", "one", "item"] ["text"] (defScope (top 23)) := ⟨rfl, rfl, rfl, by decide +kernel, rfl, by decide +kernel, by decide +kernel⟩
theorem der_covered_times (F : Fx C K mg) (c_check_text : CalD P w K mg base 5 "check_text" (V0 C) sp_check_text.up) (c_items_in : CalD P w K mg base 5 "items_in" (V0 C) sp_items_in.up) (c_set_of : CalD P w K mg base 5 "set_of" (V0 C) sp_set_of.up) (c_numbers_of : CalD P w K mg base 5 "numbers_of" (V0 C) sp_numbers_of.up) (f : Addr) (cdv : Value) (A : Around) (outer : List Env) (s : Shared) (H : Hp) (E : XK) (hr : Room 5 (A.deeper (envOfC "covered_times" (defScope (top 23)) s.heap.objs.size f cdv))) :
    SXs (cxOf (L2.CX P w) P w K mg base ["text", "every", "one", "item"] "covered_times" (defScope (top 23)) f cdv A outer s H E) (V0 C) (WxE E) (defBody (top 23)) w_covered_times := by
  have tk : Takes (cxOf (L2.CX P w) P w K mg base ["text", "every", "one", "item"] "covered_times" (defScope (top 23)) f cdv A outer s H E) (WxE E) := takes_of rfl rfl rfl rfl
  have po := passes_of (X := cxOf (L2.CX P w) P w K mg base ["text", "every", "one", "item"] "covered_times" (defScope (top 23)) f cdv A outer s H E) rfl
  have nd := sc_covered_times.nd
  exact (sxs_cons (sx_expr (ex_call0 tk c_check_text hr rfl (ax_cons (ex_var 0) ax_nil))) (sxs_cons (sx_set 1 nd (ex_call0 tk c_items_in hr rfl (ax_cons (ex_var 0) ax_nil))) (sxs_one (sx_ret (ex_lc rfl nd [("one", 2)] (ix_list (ex_call0 tk c_set_of hr rfl (ax_cons (ex_var 1) ax_nil))) (blkOk_by (by kernel_rfl)) (fun _ _ _ _ _ => (gx_name 2 nd)) (fun _ _ _ _ _ => txs_nil) (fun _ _ _ _ _ => (ex_tup (ax_cons (ex_var 2) (ax_cons (ex_blt b_len F.n_len rfl (ax_cons (EX.rd (ex_lc rfl nd [("item", 3)] (ix_list (ex_var 1)) (blkOk_by (by kernel_rfl)) (fun _ _ _ _ _ => (gx_name 3 nd)) (fun _ _ _ _ _ => (txs_one (tx_cmp (o_in hr.u65) (ex_var 2) (ex_call0 takes0 c_numbers_of hr rfl (ax_cons (ex_var 3) ax_nil))))) (fun _ _ _ _ _ => (ex_var 3)))) ax_nil)) ax_nil)))))))))
theorem len_covered_times : ∀ ds θ N Nx, (sp_covered_times.up : Spec Unit) ds θ N Nx → ds.length = 1 := by
  intro ds θ N Nx h
  trivial
theorem cal_covered_times (X : Hx C K mg) : CalD P w K mg base 6 "covered_times" (V0 C) sp_covered_times.up := by
  obtain ⟨f, fd, F, hm⟩ := X.d_covered_times
  exact cal_of F (def_ok F sc_covered_times len_covered_times law_covered_times fun cdv A outer s H E hr => der_covered_times X.fx ((cal_check_text X).mono (by decide)) ((cal_items_in X).mono (by decide)) ((cal_set_of X).mono (by decide)) ((cal_numbers_of X).mono (by decide)) f cdv A outer s H E hr) hm (F.bindsN fun _ _ _ _ _ _ us hl => match us, hl with | [_], _ => rfl)
theorem sc_law : FnScope ["_law_script", "_law_draws", "_law_some", "_law_text_here", "_law_due", "_law_idle", "_law_place", "_law_other", "_law_far", "_law_words", "_law_turn", "_law_rest", "_law_at", "_law_mark", "_law_changed", "_law_bad", "_law_item", "_law_one", "_law_k"] ["_law_script"] (defScope (top 34)) := ⟨rfl, rfl, rfl, by decide +kernel, rfl, by decide +kernel, by decide +kernel⟩
theorem der_law (F : Fx C K mg) (c__law_start : CalD P w K mg base 6 "_law_start" (VD K C) spd_start) (c__law_text : CalD P w K mg base 6 "_law_text" (VD K C) spd_text) (c__law_word : CalD P w K mg base 6 "_law_word" (V0 C) sp__law_word.up) (c__law_meant : CalD P w K mg base 6 "_law_meant" (V0 C) sp__law_meant.up) (c_is_text : CalD P w K mg base 6 "is_text" (V0 C) sp_is_text.up) (c_parse : CalD P w K mg base 6 "parse" (V0 C) sp_parse.up) (c_items : CalD P w K mg base 6 "items" (V0 C) sp_items.up) (c_first_fault : CalD P w K mg base 6 "first_fault" (V0 C) sp_first_fault.up) (c_is_set : CalD P w K mg base 6 "is_set" (V0 C) sp_is_set.up) (c_covered_times : CalD P w K mg base 6 "covered_times" (V0 C) sp_covered_times.up) (c__law_numbers : CalD P w K mg base 6 "_law_numbers" (V0 C) sp__law_numbers.up) (c_needless : CalD P w K mg base 6 "needless" (V0 C) sp_needless.up) (c__law_true : CalD P w K mg base 6 "_law_true" (V0 C) sp__law_true.up) (c_mean_same : CalD P w K mg base 6 "mean_same" (V0 C) sp_mean_same.up) (c__law_items : CalD P w K mg base 6 "_law_items" (V0 C) sp__law_items.up) (c__law_draw : CalD P w K mg base 6 "_law_draw" (VD K C) spd_draw) (c__law_pick : CalD P w K mg base 6 "_law_pick" (VD K C) spd_pick) (f : Addr) (cdv : Value) (A : Around) (outer : List Env) (s : Shared) (H : Hp) (E : XK) (hr : Room 6 (A.deeper (envOfC "law" (defScope (top 34)) s.heap.objs.size f cdv))) :
    SXs (cxOf (L2.CX P w) P w K mg base ["_law_script", "_law_draws", "_law_some", "_law_text_here", "_law_due", "_law_idle", "_law_place", "_law_other", "_law_far", "_law_words", "_law_turn", "_law_rest", "_law_at", "_law_mark", "_law_changed", "_law_bad", "_law_item", "_law_one", "_law_k"] "law" (defScope (top 34)) f cdv A outer s H E) (VD K C) (WxE E) (defBody (top 34)) w_law := by
  have tk : Takes (cxOf (L2.CX P w) P w K mg base ["_law_script", "_law_draws", "_law_some", "_law_text_here", "_law_due", "_law_idle", "_law_place", "_law_other", "_law_far", "_law_words", "_law_turn", "_law_rest", "_law_at", "_law_mark", "_law_changed", "_law_bad", "_law_item", "_law_one", "_law_k"] "law" (defScope (top 34)) f cdv A outer s H E) (WxE E) := takes_of rfl rfl rfl rfl
  have po := passes_of (X := cxOf (L2.CX P w) P w K mg base ["_law_script", "_law_draws", "_law_some", "_law_text_here", "_law_due", "_law_idle", "_law_place", "_law_other", "_law_far", "_law_words", "_law_turn", "_law_rest", "_law_at", "_law_mark", "_law_changed", "_law_bad", "_law_item", "_law_one", "_law_k"] "law" (defScope (top 34)) f cdv A outer s H E) rfl
  have nd := sc_law.nd
  exact (sxs_cons (sx_set 1 nd (ex_call tk c__law_start hr rfl (ax_cons (ex_var 0) ax_nil))) (sxs_cons (sx_set 2 nd (ex_call tk c__law_text hr rfl (ax_cons (ex_var 1) (ax_cons ex_int ax_nil)))) (sxs_cons (sx_set 3 nd (ex_join ex_str (ex_lc rfl nd [("_law_item", 16)] (ix_list (ex_var 2)) (blkOk_by (by kernel_rfl)) (fun _ _ _ _ _ => (gx_name 16 nd)) (fun _ _ _ _ _ => txs_nil) (fun _ _ _ _ _ => (ex_call0 takes0 c__law_word hr rfl (ax_cons (ex_var 16) ax_nil)))))) (sxs_cons (sx_set 4 nd (ex_call0 tk c__law_meant hr rfl (ax_cons (ex_var 2) ax_nil))) (sxs_cons (sx_if (TW.tx (tw_or (tx_cmp o_isN (ex_call0 tk c_is_text hr rfl (ax_cons (ex_var 3) ax_nil)) ex_bl) (tw_or (tx_cmp (o_ne hr.units) (ex_call0 tk c_parse hr rfl (ax_cons (ex_var 3) ax_nil)) (ex_var 4)) (tw_or (tx_cmp (o_ne hr.units) (ex_call0 tk c_items hr rfl (ax_cons (ex_var 3) ax_nil)) (ex_var 2)) (tw_or (tx_cmp o_isN (ex_call0 tk c_first_fault hr rfl (ax_cons (ex_var 3) ax_nil)) ex_non) (tw_or1 (tx_cmp o_isN (ex_call0 tk c_is_set hr rfl (ax_cons (ex_var 4) ax_nil)) ex_bl))))))) (sxs_one (sx_ret ex_bl)) sxs_nil) (sxs_cons (sx_if (tx_cmp (o_ne hr.units) (ex_call0 tk c_covered_times hr rfl (ax_cons (ex_var 3) ax_nil)) (ex_lc rfl nd [("_law_one", 17)] (ix_list (ex_var 4)) (blkOk_by (by kernel_rfl)) (fun _ _ _ _ _ => (gx_name 17 nd)) (fun _ _ _ _ _ => txs_nil) (fun _ _ _ _ _ => (ex_tup (ax_cons (ex_var 17) (ax_cons (ex_blt b_len F.n_len rfl (ax_cons (EX.rd (ex_lc rfl nd [("_law_item", 16)] (ix_list (ex_var 2)) (blkOk_by (by kernel_rfl)) (fun _ _ _ _ _ => (gx_name 16 nd)) (fun _ _ _ _ _ => (txs_one (tx_cmp (o_in hr.u65) (ex_var 17) (ex_call0 takes0 c__law_numbers hr rfl (ax_cons (ex_var 16) ax_nil))))) (fun _ _ _ _ _ => (ex_var 16)))) ax_nil)) ax_nil)))))) (sxs_one (sx_ret ex_bl)) sxs_nil) (sxs_cons (sx_new 5 nd) (sxs_cons (sx_for po rfl (ix_range1 F.n_range rfl (ax_cons (EX.rd (ex_blt b_len F.n_len rfl (ax_cons (EX.rd (ex_var 2)) ax_nil))) ax_nil)) (gx_name 6 nd) (sxs_cons (sx_set 11 nd (ex_op o_add (ex_sl (ex_var 2) ox_none (ox_some (ex_var 6))) (ex_sl (ex_var 2) (ox_some (ex_op o_add (ex_var 6) ex_int)) ox_none))) (sxs_one (sx_if (TW.tx (tw_and (tx_cmp (o_ne hr.units) (ex_var 11) (ex_lst ax_nil)) (tw_and1 (tx_cmp (o_eq hr.units) (ex_call0 tk c__law_meant hr rfl (ax_cons (ex_var 11) ax_nil)) (ex_var 4))))) (sxs_one (sx_append 5 (ex_var 6))) sxs_nil)))) (sxs_frz 5 (sxs_cons (sx_if (tx_cmp (o_ne hr.units) (ex_call0 tk c_needless hr rfl (ax_cons (ex_var 3) ax_nil)) (ex_var 5)) (sxs_one (sx_ret ex_bl)) sxs_nil) (sxs_cons (sx_set 7 nd (ex_call tk c__law_text hr rfl (ax_cons (ex_var 1) (ax_cons ex_int ax_nil)))) (sxs_cons (sx_set 8 nd (ex_join ex_str (ex_lc rfl nd [("_law_item", 16)] (ix_list (ex_var 7)) (blkOk_by (by kernel_rfl)) (fun _ _ _ _ _ => (gx_name 16 nd)) (fun _ _ _ _ _ => txs_nil) (fun _ _ _ _ _ => (ex_call0 takes0 c__law_word hr rfl (ax_cons (ex_var 16) ax_nil)))))) (sxs_cons (sx_if (TW.tx (tw_or (tx_not (tx_val (ex_call0 tk c__law_true hr rfl (ax_cons (ex_call0 tk c_mean_same hr rfl (ax_cons (ex_var 3) (ax_cons (ex_var 8) ax_nil))) (ax_cons (ex_cmp (o_eq hr.units) (ex_call0 tk c__law_meant hr rfl (ax_cons (ex_var 7) ax_nil)) (ex_var 4)) ax_nil))))) (tw_or1 (tx_cmp o_isN (ex_call0 tk c_mean_same hr rfl (ax_cons (ex_var 3) (ax_cons (ex_join ex_str (ex_lc rfl nd [("_law_one", 17)] (ix_list (ex_var 4)) (blkOk_by (by kernel_rfl)) (fun _ _ _ _ _ => (gx_name 17 nd)) (fun _ _ _ _ _ => txs_nil) (fun _ _ _ _ _ => (ex_ty b_str F.n_str rfl (ax_cons (EX.rd (ex_var 17)) ax_nil))))) ax_nil))) ex_bl)))) (sxs_one (sx_ret ex_bl)) sxs_nil) (sxs_cons (sx_set 9 nd (ex_lc rfl nd [("_law_item", 16)] (ix_list (ex_callN0 tk c__law_items hr rfl)) (blkOk_by (by kernel_rfl)) (fun _ _ _ _ _ => (gx_name 16 nd)) (fun _ _ _ _ _ => txs_nil) (fun _ _ _ _ _ => (ex_call0 takes0 c__law_word hr rfl (ax_cons (ex_var 16) ax_nil))))) (sxs_cons (sx_for po rfl (ix_range1 F.n_range rfl (ax_cons (EX.rd ex_int) ax_nil)) (gx_name 10 nd) (sxs_cons (sx_set 12 nd (ex_call tk c__law_draw hr rfl (ax_cons (ex_var 1) (ax_cons (ex_op o_add (ex_blt b_len F.n_len rfl (ax_cons (EX.rd (ex_var 3)) ax_nil)) ex_int) ax_nil)))) (sxs_cons (sx_set 13 nd (ex_call tk c__law_pick hr rfl (ax_cons (ex_var 1) (ax_cons (ex_lst (ax_cons ex_str (ax_cons ex_str (ax_cons ex_str (ax_cons ex_str (ax_cons ex_str (ax_cons ex_str (ax_cons ex_str (ax_cons ex_str ax_nil))))))))) ax_nil)))) (sxs_cons (sx_set 14 nd (ex_call tk c__law_pick hr rfl (ax_cons (ex_var 1) (ax_cons (ex_lst (ax_cons (ex_op o_add (ex_op o_add (ex_sl (ex_var 3) ox_none (ox_some (ex_var 12))) (ex_var 13)) (ex_sl (ex_var 3) (ox_some (ex_op o_add (ex_var 12) ex_int)) ox_none)) (ax_cons (ex_op o_add (ex_op o_add (ex_sl (ex_var 3) ox_none (ox_some (ex_var 12))) (ex_var 13)) (ex_sl (ex_var 3) (ox_some (ex_var 12)) ox_none)) ax_nil))) ax_nil)))) (sxs_cons (sx_setLc 15 rfl nd [("_law_k", 18)] (ix_range1 F.n_range rfl (ax_cons (EX.rd (ex_blt b_len F.n_len rfl (ax_cons (EX.rd (ex_split (ex_var 14) ex_str)) ax_nil))) ax_nil)) (blkOk_by (by kernel_rfl)) (fun _ _ _ _ _ => (gx_name 18 nd)) (fun _ _ _ _ _ => (txs_one (tx_cmp (o_ni hr.u65) (ex_ix (ex_split (ex_var 14) ex_str) (ex_var 18)) (ex_var 9)))) (fun _ _ _ _ _ => (ex_var 18)) (sw_true rfl rfl rfl (by decide +kernel))) (sxs_one (sx_if (TW.tx (tw_or (tx_cmp (o_ne hr.units) (ex_call0 tk c_first_fault hr rfl (ax_cons (ex_var 14) ax_nil)) (ex_if (tx_cmp (o_ne hr.units) (ex_var 15) (ex_lst ax_nil)) (ex_ix (ex_var 15) ex_int) ex_non)) (tw_or1 (tx_not (tx_val (ex_call0 tk c__law_true hr rfl (ax_cons (ex_call0 tk c_is_text hr rfl (ax_cons (ex_var 14) ax_nil)) (ax_cons (ex_cmp (o_eq hr.units) (ex_var 15) (ex_lst ax_nil)) ax_nil)))))))) (sxs_one (sx_ret ex_bl)) sxs_nil))))))) (sxs_one (sx_ret (ex_and (ex_cmp o_is (ex_call0 tk c_is_text hr rfl (ax_cons ex_non ax_nil)) ex_bl) (ex_and (ex_cmp o_is (ex_call0 tk c_is_text hr rfl (ax_cons ex_str ax_nil)) ex_bl) (ex_and (ex_cmp o_is (ex_call0 tk c_is_text hr rfl (ax_cons (ex_lst (ax_cons ex_str ax_nil)) ax_nil)) ex_bl) (ex_one (ex_cmp (o_eq hr.units) (ex_call0 tk c_first_fault hr rfl (ax_cons ex_str ax_nil)) ex_int))))))))))))))))))))))
theorem len_law : ∀ ds θ N Nx, (spd_law : Spec DrawSt) ds θ N Nx → ds.length = 1 := by
  intro ds θ N Nx h
  trivial
theorem cal_law (X : Hx C K mg) : CalD P w K mg base 7 "law" (VD K C) spd_law := by
  obtain ⟨f, fd, F, hm⟩ := X.d_law
  exact cal_of F (def_ok F sc_law len_law law_k02 fun cdv A outer s H E hr => der_law X.fx ((cal__law_start X).mono (by decide)) ((cal__law_text X).mono (by decide)) ((cal__law_word X).mono (by decide)) ((cal__law_meant X).mono (by decide)) ((cal_is_text X).mono (by decide)) ((cal_parse X).mono (by decide)) ((cal_items X).mono (by decide)) ((cal_first_fault X).mono (by decide)) ((cal_is_set X).mono (by decide)) ((cal_covered_times X).mono (by decide)) ((cal__law_numbers X).mono (by decide)) ((cal_needless X).mono (by decide)) ((cal__law_true X).mono (by decide)) ((cal_mean_same X).mono (by decide)) ((cal__law_items X).mono (by decide)) ((cal__law_draw X).mono (by decide)) ((cal__law_pick X).mono (by decide)) f cdv A outer s H E hr) hm (F.bindsN fun _ _ _ _ _ _ us hl => match us, hl with | [_], _ => rfl)
end
def d4 : He.DefD := ⟨("is_int", none), "is_int", "is_int", defArgs (top 4), defBody (top 4), defScope (top 4), [], []⟩
def d5 : He.DefD := ⟨("is_set", none), "is_set", "is_set", defArgs (top 5), defBody (top 5), defScope (top 5), [], []⟩
def d6 : He.DefD := ⟨("is_item", none), "is_item", "is_item", defArgs (top 6), defBody (top 6), defScope (top 6), [], []⟩
def d9 : He.DefD := ⟨("numbers_of", none), "numbers_of", "numbers_of", defArgs (top 9), defBody (top 9), defScope (top 9), [], []⟩
def d10 : He.DefD := ⟨("text_of", none), "text_of", "text_of", defArgs (top 10), defBody (top 10), defScope (top 10), [], []⟩
def d11 : He.DefD := ⟨("number_in", none), "number_in", "number_in", defArgs (top 11), defBody (top 11), defScope (top 11), [], []⟩
def d12 : He.DefD := ⟨("item_in", none), "item_in", "item_in", defArgs (top 12), defBody (top 12), defScope (top 12), [], []⟩
def d14 : He.DefD := ⟨("items_in", none), "items_in", "items_in", defArgs (top 14), defBody (top 14), defScope (top 14), [], []⟩
def d15 : He.DefD := ⟨("set_of", none), "set_of", "set_of", defArgs (top 15), defBody (top 15), defScope (top 15), [], []⟩
def d16 : He.DefD := ⟨("check_text", none), "check_text", "check_text", defArgs (top 16), defBody (top 16), defScope (top 16), [], []⟩
def d17 : He.DefD := ⟨("is_text", none), "is_text", "is_text", defArgs (top 17), defBody (top 17), defScope (top 17), [], []⟩
def d18 : He.DefD := ⟨("parse", none), "parse", "parse", defArgs (top 18), defBody (top 18), defScope (top 18), [], []⟩
def d19 : He.DefD := ⟨("items", none), "items", "items", defArgs (top 19), defBody (top 19), defScope (top 19), [], []⟩
def d20 : He.DefD := ⟨("first_fault", none), "first_fault", "first_fault", defArgs (top 20), defBody (top 20), defScope (top 20), [], []⟩
def d21 : He.DefD := ⟨("mean_same", none), "mean_same", "mean_same", defArgs (top 21), defBody (top 21), defScope (top 21), [], []⟩
def d22 : He.DefD := ⟨("needless", none), "needless", "needless", defArgs (top 22), defBody (top 22), defScope (top 22), [], []⟩
def d23 : He.DefD := ⟨("covered_times", none), "covered_times", "covered_times", defArgs (top 23), defBody (top 23), defScope (top 23), [], []⟩
def d25 : He.DefD := ⟨("_law_start", none), "_law_start", "_law_start", defArgs (top 25), defBody (top 25), defScope (top 25), [], []⟩
def d26 : He.DefD := ⟨("_law_draw", none), "_law_draw", "_law_draw", defArgs (top 26), defBody (top 26), defScope (top 26), [], []⟩
def d27 : He.DefD := ⟨("_law_pick", none), "_law_pick", "_law_pick", defArgs (top 27), defBody (top 27), defScope (top 27), [], []⟩
def d28 : He.DefD := ⟨("_law_true", none), "_law_true", "_law_true", defArgs (top 28), defBody (top 28), defScope (top 28), [], []⟩
def d29 : He.DefD := ⟨("_law_items", none), "_law_items", "_law_items", defArgs (top 29), defBody (top 29), defScope (top 29), [], []⟩
def d30 : He.DefD := ⟨("_law_numbers", none), "_law_numbers", "_law_numbers", defArgs (top 30), defBody (top 30), defScope (top 30), [], []⟩
def d31 : He.DefD := ⟨("_law_word", none), "_law_word", "_law_word", defArgs (top 31), defBody (top 31), defScope (top 31), [], []⟩
def d32 : He.DefD := ⟨("_law_text", none), "_law_text", "_law_text", defArgs (top 32), defBody (top 32), defScope (top 32), [], []⟩
def d33 : He.DefD := ⟨("_law_meant", none), "_law_meant", "_law_meant", defArgs (top 33), defBody (top 33), defScope (top 33), [], []⟩
def d34 : He.DefD := ⟨("law", none), "law", "law", defArgs (top 34), defBody (top 34), defScope (top 34), [], []⟩
def fnL : List He.DefD := [d4, d5, d6, d9, d10, d11, d12, d14, d15, d16, d17, d18, d19, d20, d21, d22, d23, d25, d26, d27, d28, d29, d30, d31, d32, d33, d34]
def fa0 : List He.Fa := [.glo "is_int", .glo "is_set", .glo "is_item", .glo "numbers_of", .glo "text_of", .glo "number_in", .glo "item_in", .glo "items_in", .glo "set_of", .glo "check_text", .glo "is_text", .glo "parse", .glo "items", .glo "first_fault", .glo "mean_same", .glo "needless", .glo "covered_times", .glo "_law_start", .glo "_law_draw", .glo "_law_pick", .glo "_law_true", .glo "_law_items", .glo "_law_numbers", .glo "_law_word", .glo "_law_text", .glo "_law_meant", .glo "law", .free "all", .free "bool", .free "enumerate", .free "int", .free "isinstance", .free "len", .free "list", .free "range"]
def fa1 : List He.Fa := [.free "set", .free "sorted", .free "str", .free "tuple", .free "zip", .int "MOST" 10, .str "DIGITS" "0123456789", .exc "BadText", .glo "BadText"]
def fa : List He.Fa := fa0 ++ (fa1)
def lo0 : List PySem.Str := [PySem.Str.ofString "RangeError", PySem.Str.ofString "BadText", PySem.Str.ofString "MOST", PySem.Str.ofString "is_int", PySem.Str.ofString "is_set", PySem.Str.ofString "is_item", PySem.Str.ofString "DIGITS", PySem.Str.ofString "numbers_of", PySem.Str.ofString "text_of", PySem.Str.ofString "number_in", PySem.Str.ofString "item_in", PySem.Str.ofString "items_in", PySem.Str.ofString "set_of", PySem.Str.ofString "check_text", PySem.Str.ofString "is_text", PySem.Str.ofString "parse", PySem.Str.ofString "items", PySem.Str.ofString "first_fault", PySem.Str.ofString "mean_same", PySem.Str.ofString "needless", PySem.Str.ofString "covered_times", PySem.Str.ofString "_law_start", PySem.Str.ofString "_law_draw", PySem.Str.ofString "_law_pick", PySem.Str.ofString "_law_true", PySem.Str.ofString "_law_items", PySem.Str.ofString "_law_numbers", PySem.Str.ofString "_law_word", PySem.Str.ofString "_law_text", PySem.Str.ofString "_law_meant"]
def lo : List PySem.Str := lo0
abbrev Rw : PySem.W.OpenRow := PySem.W.OpenLaw.row PySem.Challenge.rw_rangetexts_k02_whole_texts
abbrev hk : PySem.W.Hook := He.hookD 4 fa fnL
def ob (s : PySem.W.SharedT) : He.AlD := He.obsDG 4 fa fnL (HandSHeadRun.getT s)
theorem ob_eq (s : PySem.W.SharedT) : ob s = hk.obs s.abs := He.obsDG_eq (HandSHeadRun.getT_eq s)
theorem run (w : World) : HandSHeadRun.RunEq Rw (PySem.W.view Rw.prog [34]) hk ob 6000 lo w := by
  intro os
  kernel_rfl
def excA (K : PySem.W.Frag) : EK → Addr
  | .set => He.ga K "BadSet"
  | .item => He.ga K "BadItem"
  | .number => He.ga K "BadNumber"
  | .text => He.ga K "BadText"
  | .none => He.ga K "NotFound"
theorem hx_of {K : PySem.W.Frag} {h : Heap} {mg : Str → Option Value} (X : K.In h) (G : h.Ns mainGlobals mg) (c : He.SaysD fa fnL K) : Hx (excA K) K mg := by
  obtain ⟨e1_BadText, e2_BadText, e3_BadText, e4_BadText⟩ := He.exc_ok (c.fact 42 (f := .exc "BadText") rfl)
  refine ⟨⟨He.free_ok X G (c.fact 27 (f := .free "all") rfl), He.free_ok X G (c.fact 28 (f := .free "bool") rfl), He.free_ok X G (c.fact 29 (f := .free "enumerate") rfl), He.free_ok X G (c.fact 30 (f := .free "int") rfl), He.free_ok X G (c.fact 31 (f := .free "isinstance") rfl), He.free_ok X G (c.fact 32 (f := .free "len") rfl), He.free_ok X G (c.fact 33 (f := .free "list") rfl), He.free_ok X G (c.fact 34 (f := .free "range") rfl), He.free_ok X G (c.fact 35 (f := .free "set") rfl), He.free_ok X G (c.fact 36 (f := .free "sorted") rfl), He.free_ok X G (c.fact 37 (f := .free "str") rfl), He.free_ok X G (c.fact 38 (f := .free "tuple") rfl), He.free_ok X G (c.fact 39 (f := .free "zip") rfl), He.int_ok X G (c.fact 40 (f := .int "MOST" 10) rfl), He.str_ok X G (c.fact 41 (f := .str "DIGITS" "0123456789") rfl), ⟨He.glo_ok X G (c.fact 43 (f := .glo "BadText") rfl), e1_BadText, e2_BadText, e3_BadText, e4_BadText⟩⟩, ?_, ?_, ?_, ?_, ?_, ?_, ?_, ?_, ?_, ?_, ?_, ?_, ?_, ?_, ?_, ?_, ?_, ?_, ?_, ?_, ?_, ?_, ?_, ?_, ?_, ?_, ?_⟩
  · obtain ⟨fd, F⟩ := c.def_ 0 (d := d4) rfl
    exact ⟨_, fd, F, He.glo_ok X G (c.fact 0 (f := .glo "is_int") rfl)⟩
  · obtain ⟨fd, F⟩ := c.def_ 1 (d := d5) rfl
    exact ⟨_, fd, F, He.glo_ok X G (c.fact 1 (f := .glo "is_set") rfl)⟩
  · obtain ⟨fd, F⟩ := c.def_ 2 (d := d6) rfl
    exact ⟨_, fd, F, He.glo_ok X G (c.fact 2 (f := .glo "is_item") rfl)⟩
  · obtain ⟨fd, F⟩ := c.def_ 3 (d := d9) rfl
    exact ⟨_, fd, F, He.glo_ok X G (c.fact 3 (f := .glo "numbers_of") rfl)⟩
  · obtain ⟨fd, F⟩ := c.def_ 4 (d := d10) rfl
    exact ⟨_, fd, F, He.glo_ok X G (c.fact 4 (f := .glo "text_of") rfl)⟩
  · obtain ⟨fd, F⟩ := c.def_ 5 (d := d11) rfl
    exact ⟨_, fd, F, He.glo_ok X G (c.fact 5 (f := .glo "number_in") rfl)⟩
  · obtain ⟨fd, F⟩ := c.def_ 6 (d := d12) rfl
    exact ⟨_, fd, F, He.glo_ok X G (c.fact 6 (f := .glo "item_in") rfl)⟩
  · obtain ⟨fd, F⟩ := c.def_ 7 (d := d14) rfl
    exact ⟨_, fd, F, He.glo_ok X G (c.fact 7 (f := .glo "items_in") rfl)⟩
  · obtain ⟨fd, F⟩ := c.def_ 8 (d := d15) rfl
    exact ⟨_, fd, F, He.glo_ok X G (c.fact 8 (f := .glo "set_of") rfl)⟩
  · obtain ⟨fd, F⟩ := c.def_ 9 (d := d16) rfl
    exact ⟨_, fd, F, He.glo_ok X G (c.fact 9 (f := .glo "check_text") rfl)⟩
  · obtain ⟨fd, F⟩ := c.def_ 10 (d := d17) rfl
    exact ⟨_, fd, F, He.glo_ok X G (c.fact 10 (f := .glo "is_text") rfl)⟩
  · obtain ⟨fd, F⟩ := c.def_ 11 (d := d18) rfl
    exact ⟨_, fd, F, He.glo_ok X G (c.fact 11 (f := .glo "parse") rfl)⟩
  · obtain ⟨fd, F⟩ := c.def_ 12 (d := d19) rfl
    exact ⟨_, fd, F, He.glo_ok X G (c.fact 12 (f := .glo "items") rfl)⟩
  · obtain ⟨fd, F⟩ := c.def_ 13 (d := d20) rfl
    exact ⟨_, fd, F, He.glo_ok X G (c.fact 13 (f := .glo "first_fault") rfl)⟩
  · obtain ⟨fd, F⟩ := c.def_ 14 (d := d21) rfl
    exact ⟨_, fd, F, He.glo_ok X G (c.fact 14 (f := .glo "mean_same") rfl)⟩
  · obtain ⟨fd, F⟩ := c.def_ 15 (d := d22) rfl
    exact ⟨_, fd, F, He.glo_ok X G (c.fact 15 (f := .glo "needless") rfl)⟩
  · obtain ⟨fd, F⟩ := c.def_ 16 (d := d23) rfl
    exact ⟨_, fd, F, He.glo_ok X G (c.fact 16 (f := .glo "covered_times") rfl)⟩
  · obtain ⟨fd, F⟩ := c.def_ 17 (d := d25) rfl
    exact ⟨_, fd, F, He.glo_ok X G (c.fact 17 (f := .glo "_law_start") rfl)⟩
  · obtain ⟨fd, F⟩ := c.def_ 18 (d := d26) rfl
    exact ⟨_, fd, F, He.glo_ok X G (c.fact 18 (f := .glo "_law_draw") rfl)⟩
  · obtain ⟨fd, F⟩ := c.def_ 19 (d := d27) rfl
    exact ⟨_, fd, F, He.glo_ok X G (c.fact 19 (f := .glo "_law_pick") rfl)⟩
  · obtain ⟨fd, F⟩ := c.def_ 20 (d := d28) rfl
    exact ⟨_, fd, F, He.glo_ok X G (c.fact 20 (f := .glo "_law_true") rfl)⟩
  · obtain ⟨fd, F⟩ := c.def_ 21 (d := d29) rfl
    exact ⟨_, fd, F, He.glo_ok X G (c.fact 21 (f := .glo "_law_items") rfl)⟩
  · obtain ⟨fd, F⟩ := c.def_ 22 (d := d30) rfl
    exact ⟨_, fd, F, He.glo_ok X G (c.fact 22 (f := .glo "_law_numbers") rfl)⟩
  · obtain ⟨fd, F⟩ := c.def_ 23 (d := d31) rfl
    exact ⟨_, fd, F, He.glo_ok X G (c.fact 23 (f := .glo "_law_word") rfl)⟩
  · obtain ⟨fd, F⟩ := c.def_ 24 (d := d32) rfl
    exact ⟨_, fd, F, He.glo_ok X G (c.fact 24 (f := .glo "_law_text") rfl)⟩
  · obtain ⟨fd, F⟩ := c.def_ 25 (d := d33) rfl
    exact ⟨_, fd, F, He.glo_ok X G (c.fact 25 (f := .glo "_law_meant") rfl)⟩
  · obtain ⟨fd, F⟩ := c.def_ 26 (d := d34) rfl
    exact ⟨_, fd, F, He.glo_ok X G (c.fact 26 (f := .glo "law") rfl)⟩
theorem facts {P : Program} {w : World} {K : PySem.W.Frag} {h : Heap} {mg : Str → Option Value} {f : Addr} (X : K.In h) (G : h.Ns mainGlobals mg) (hfa : mg ("law" : Str) = some (.ref f)) (c : He.SaysD fa fnL K) :
    ∃ fd : FuncData, (∀ (s : Shared) (v : Value), BindsTo s fd ⟨[v], []⟩ [("_law_script", v)]) ∧ ∀ base : Heap, K.In base → base.Ns mainGlobals mg → FnOk P w K mg base (L2.CX P w) 7 f fd ["_law_script"] (SpD (VD K (excA K)) spd_law) := by
  have Y := hx_of X G c
  obtain ⟨f', fd, F, hm⟩ := Y.d_law
  rw [hfa] at hm
  cases hm
  have b := FunD.bindsA (ps := ["_law_script"]) F fun _ _ _ _ _ _ us hl => match us, hl with | [_], _ => rfl
  refine ⟨fd, fun s v => b s [v] rfl, fun base _ _ => ?_⟩
  exact def_ok F sc_law len_law law_k02 fun cdv A outer s H E hr => der_law Y.fx ((cal__law_start Y).mono (by decide)) ((cal__law_text Y).mono (by decide)) ((cal__law_word Y).mono (by decide)) ((cal__law_meant Y).mono (by decide)) ((cal_is_text Y).mono (by decide)) ((cal_parse Y).mono (by decide)) ((cal_items Y).mono (by decide)) ((cal_first_fault Y).mono (by decide)) ((cal_is_set Y).mono (by decide)) ((cal_covered_times Y).mono (by decide)) ((cal__law_numbers Y).mono (by decide)) ((cal_needless Y).mono (by decide)) ((cal__law_true Y).mono (by decide)) ((cal_mean_same Y).mono (by decide)) ((cal__law_items Y).mono (by decide)) ((cal__law_draw Y).mono (by decide)) ((cal__law_pick Y).mono (by decide)) f cdv A outer s H E hr
theorem spec_ok {K : PySem.W.Frag} {C : EK → Addr} (H : Hp) (a : Addr) (ns : List Int) (hl : ns.length ≤ 63) (hS : SqL K H a (ns.map V.int)) : SpD (VD K C) spd_law [.ref a] H (fun v _ => v = .bl true) fun _ _ _ => False := by
  refine ⟨⟨H, fun _ => none, H⟩, .pre a, [.rf a], fun d _ => d = .py (.bool true), fun _ _ => False, rfl, ⟨fun _ _ e => e, fun _ _ e => (by cases e), fun _ _ _ => rfl⟩, ⟨fun _ => rfl, ns, hl, hS⟩, .cons rfl .nil, ⟨a, rfl, rfl, fun _ => rfl⟩, fun d θ' M' v e j r n => ?_, fun _ _ _ _ _ h => h⟩
  have n' : d = .py (.bool true) := n
  subst n'
  cases (show Dr M'.G v (.bool true) from r)
  rfl
end RT
open PySem PySem.W PySem.Calls PyProof.Rows
theorem PySem.Challenge.cw_rangetexts_k02_whole_texts_holds : PySem.Challenge.rw_rangetexts_k02_whole_texts.Holds := by
  w_on; o_law
  refine HandSHeadRun.head_any (r := OpenLaw.row PySem.Challenge.rw_rangetexts_k02_whole_texts) (q := view (OpenLaw.row PySem.Challenge.rw_rangetexts_k02_whole_texts).prog [34]) (H := RT.hk) (ob := RT.ob) (M := 6000) (loose := RT.lo) (d := HandSHeadRun.topDef (OpenLaw.row PySem.Challenge.rw_rangetexts_k02_whole_texts).prog 34) (kwd := []) RT.ob_eq
    (by kernel_rfl) (fun s => by kernel_rfl) RT.run (by kernel_rfl) (by kernel_rfl) (by kernel_rfl) (by rfl) (by first | assumption | decide +kernel) (by decide +kernel) ⟨rfl, rfl, rfl, rfl, rfl, by decide +kernel⟩ ?hw ?hc
  case hw => w_witness2
  case hc =>
    refine LamX.walk_ofTsE (l := PySem.Challenge.rw_rangetexts_k02_whole_texts) (n := 63) (k := 7) (x := "_law_script") (CX := fun w => L2.CX (PySem.Challenge.rw_rangetexts_k02_whole_texts).prog w) rfl (by decide) (by kernel_rfl) ⟨rfl, by decide, by decide⟩ ?F (fun _ _ _ _ _ z => by obtain ⟨_, _, _, _, _, _, _, _, _, _, _, _, h⟩ := z; exact h)
    intro w mg fa h Y G hmg0
    obtain ⟨K, KX, c⟩ := Y
    have hmg : mg ("law" : PySem.Str) = some (.ref fa) := by
      have e : (HandSHeadRun.topDef (OpenLaw.row PySem.Challenge.rw_rangetexts_k02_whole_texts).prog 34).name = ("law" : PySem.Str) := by kernel_rfl
      rw [← e]
      exact hmg0
    obtain ⟨fd, hb, hF⟩ := RT.facts (P := (PySem.Challenge.rw_rangetexts_k02_whole_texts).prog) (w := w) KX G hmg c
    exact ⟨K, KX, fd, [], _, (fun _ z => by cases z), (fun _ z => by cases z), (fun _ z => by cases z), hb, fun H a ns hl _ _ hS => RT.spec_ok H a ns hl hS, fun base k1 k2 _ => hF base k1 k2⟩
end
