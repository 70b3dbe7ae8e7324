import PyProof.Rows.All
import HandS.ForMost
import HandS.ForExc
import HandS.FStr
import HandS.Conv
import HandS.Style
import HandS.IsInst
import HandS.Deep
import HandS.TupAny
import HandS.TupLe
import HandS.SortInts
import HandS.SortOrd
import HandS.Strs
import HandS.Defaults
import HandS.SetFor
import HandS.SortRule
import HandS.Text
import HandS.TupSets
import HandS.Codes
import HandS.ExcIs
import HandS.HeadHook2
import HandS.Dict
import KE.KeyNested
import KE.DataFind
import KE.SortData
import Wide.All
import OpenK.AllK
import Wide.FinOn
import KE.KStateDown
import Lean
import HandS.Ends
import HandS.More
import HandS.Words
import HandS.WordsExc
import HandS.Head0
import HandS.Head1
import HandS.Head2
import HandS.HeadEnd
import HandS.HeadHook1
import HandS.HeadWalk
import PySem.Challenge.RW_rangetexts_k11_whole_orders
section
set_option Elab.async false
set_option linter.all false
set_option maxRecDepth 100000
set_option maxHeartbeats 2000000
namespace RT
open PySem PySem.Spec PyProof.Rows L2
/-! ### data and what stands for it -/
mutual
inductive Dr (G : Hp) : V → PyData → Prop
  | non : Dr G .non .none
  | bl (b : Bool) : Dr G (.bl b) (.bool b)
  | int (i : Int) : Dr G (.int i) (.int i)
  | str (x : Str) : Dr G (.str x) (.str x)
  | lst {a : Addr} {xs : List V} {ds : List PyData} : G a = some (.lst xs) → DrAll G xs ds → Dr G (.ref a) (.list ds)
  | tup {a : Addr} {xs : List V} {ds : List PyData} : G a = some (.tup xs) → DrAll G xs ds → Dr G (.ref a) (.tuple ds)
inductive DrAll (G : Hp) : List V → List PyData → Prop
  | nil : DrAll G [] []
  | cons {v : V} {vs : List V} {d : PyData} {ds : List PyData} : Dr G v d → DrAll G vs ds → DrAll G (v :: vs) (d :: ds)
end
section
variable {G G' : Hp}
mutual
theorem Dr.mono (s : Same G G') : ∀ {v : V} {d : PyData}, Dr G v d → Dr G' v d
  | _, _, .non => .non
  | _, _, .bl b => .bl b
  | _, _, .int i => .int i
  | _, _, .str x => .str x
  | _, _, .lst h r => .lst (s _ _ h) (DrAll.mono s r)
  | _, _, .tup h r => .tup (s _ _ h) (DrAll.mono s r)
theorem DrAll.mono (s : Same G G') : ∀ {vs : List V} {ds : List PyData}, DrAll G vs ds → DrAll G' vs ds
  | _, _, .nil => .nil
  | _, _, .cons h r => .cons (h.mono s) (r.mono s)
end
mutual
theorem Dr.dp (K : PySem.W.Frag) : ∀ {v : V} {d : PyData}, Dr G v d → Dp K G v d
  | _, _, .non => .non
  | _, _, .bl b => .bl b
  | _, _, .int i => .int i
  | _, _, .str x => .str x
  | _, _, .lst h r => .lst (.of h) (DrAll.dp K r)
  | _, _, .tup h r => .tup (.of h) (DrAll.dp K r)
theorem DrAll.dp (K : PySem.W.Frag) : ∀ {vs : List V} {ds : List PyData}, DrAll G vs ds → DpAll K G vs ds
  | _, _, .nil => .nil
  | _, _, .cons h r => .cons (h.dp K) (r.dp K)
end
theorem DrAll.len : ∀ {vs : List V} {ds : List PyData}, DrAll G vs ds → vs.length = ds.length
  | _, _, .nil => rfl
  | _, _, .cons _ r => congrArg Nat.succ r.len
theorem DrAll.append : ∀ {vs us : List V} {ds es : List PyData}, DrAll G vs ds → DrAll G us es → DrAll G (vs ++ us) (ds ++ es)
  | _, _, _, _, .nil, r => r
  | _, _, _, _, .cons h t, r => .cons h (t.append r)
theorem DrAll.one {v : V} {d : PyData} (h : Dr G v d) : DrAll G [v] [d] := .cons h .nil
theorem DrAll.get : ∀ {vs : List V} {ds : List PyData} {i : Nat} {d : PyData}, DrAll G vs ds → ds[i]? = some d → ∃ v, vs[i]? = some v ∧ Dr G v d
  | _, _, _, _, .nil, h => by simp at h
  | _, _, 0, _, .cons r _, h => by
    simp at h
    subst h
    exact ⟨_, rfl, r⟩
  | _, _, i + 1, _, .cons _ t, h => by
    obtain ⟨v, e, r⟩ := t.get (i := i) (by simpa using h)
    exact ⟨v, by simpa using e, r⟩
theorem DrAll.take : ∀ {vs : List V} {ds : List PyData} (n : Nat), DrAll G vs ds → DrAll G (vs.take n) (ds.take n)
  | _, _, 0, _ => .nil
  | _, _, _ + 1, .nil => .nil
  | _, _, n + 1, .cons r t => .cons r (DrAll.take n t)
theorem DrAll.drop : ∀ {vs : List V} {ds : List PyData} (n : Nat), DrAll G vs ds → DrAll G (vs.drop n) (ds.drop n)
  | _, _, 0, r => r
  | _, _, _ + 1, .nil => .nil
  | _, _, n + 1, .cons _ t => DrAll.drop n t
theorem DrAll.rev : ∀ {vs : List V} {ds : List PyData}, DrAll G vs ds → DrAll G vs.reverse ds.reverse
  | _, _, .nil => .nil
  | _, _, .cons h t => by
    rw [List.reverse_cons, List.reverse_cons]
    exact t.rev.append (.one h)
theorem DrAll.set : ∀ {vs : List V} {ds : List PyData} {v : V} {d : PyData} (i : Nat), Dr G v d → DrAll G vs ds → DrAll G (vs.set i v) (ds.set i d)
  | _, _, _, _, _, _, .nil => .nil
  | _, _, _, _, 0, h, .cons _ t => .cons h t
  | _, _, _, _, i + 1, h, .cons r t => .cons r (DrAll.set i h t)
theorem DrAll.rep : ∀ (n : Nat) {vs : List V} {ds : List PyData}, DrAll G vs ds → DrAll G (List.replicate n vs).flatten (List.replicate n ds).flatten
  | 0, _, _, _ => .nil
  | n + 1, _, _, h => by
    rw [List.replicate_succ, List.replicate_succ, List.flatten_cons, List.flatten_cons]
    exact h.append (DrAll.rep n h)
theorem DrAll.ints : ∀ {ns : List Int} {vs : List V}, DrAll G vs (ns.map PyData.int) → vs = ns.map V.int
  | [], _, .nil => rfl
  | n :: ns, _, .cons (v := v) h t => by
    cases h
    rw [List.map_cons, t.ints]
theorem DrAll.of_ints : ∀ (ns : List Int), DrAll G (ns.map V.int) (ns.map PyData.int)
  | [] => .nil
  | n :: ns => .cons (.int n) (DrAll.of_ints ns)
theorem DrAll.strs : ∀ {ns : List Str} {vs : List V}, DrAll G vs (ns.map PyData.str) → vs = ns.map V.str
  | [], _, .nil => rfl
  | n :: ns, _, .cons (v := v) h t => by
    cases h
    rw [List.map_cons, t.strs]
theorem DrAll.of_strs : ∀ (ns : List Str), DrAll G (ns.map V.str) (ns.map PyData.str)
  | [] => .nil
  | n :: ns => .cons (.str n) (DrAll.of_strs ns)
theorem DrAll.bls : ∀ {ns : List Bool} {vs : List V}, DrAll G vs (ns.map PyData.bool) → vs = ns.map V.bl
  | [], _, .nil => rfl
  | n :: ns, _, .cons (v := v) h t => by
    cases h
    rw [List.map_cons, t.bls]
end

/-! ### kinds of errors, values, worlds -/
inductive EK where
  | set | item | number | text | none
  deriving DecidableEq
inductive D where
  | py (d : PyData) | ex (k : EK) | rf (a : Addr)
def ExT (c a : Addr) : HO := .ext fun h => ∃ (oe : Obj) (vs : Array Value), h.get? a = some oe ∧ Zc (.ref c) Option.none oe ∧ oe.data = .fields vs
def Rv (C : EK → Addr) (G : Hp) (v : V) : D → Prop
  | .py d => Dr G v d
  | .ex k => ∃ a, v = .ref a ∧ G a = some (ExT (C k) a)
  | .rf a => v = .ref a
theorem Rv.mono {C : EK → Addr} {G G' : Hp} (s : Same G G') {v : V} : ∀ {d : D}, Rv C G v d → Rv C G' v d
  | .py _, h => Dr.mono s h
  | .ex _, ⟨a, e, h⟩ => ⟨a, e, s _ _ h⟩
  | .rf _, h => h
/-- G: never changes again; Z: kept by an invariant of its own; H: all -/
structure Wd where
  G : Hp
  Z : Hp
  H : Hp
structure Wd.Ok (M : Wd) : Prop where
  g : Same M.G M.H
  z : Same M.Z M.H
  d : ∀ b o, M.G b = some o → M.Z b = Option.none
structure Ext (M M' : Wd) : Prop where
  ok : M'.Ok
  g : Same M.G M'.G
  t : ∀ b, M'.H b = Option.none → M.H b = Option.none
  k : ∀ b o, M.H b = some o → M.Z b = Option.none → M'.H b = some o ∧ M'.G b = M.G b ∧ M'.Z b = Option.none
theorem Ext.refl {M : Wd} (o : M.Ok) : Ext M M := ⟨o, Same.refl _, fun _ h => h, fun _ _ h z => ⟨h, rfl, z⟩⟩
theorem Ext.trans {M M1 M2 : Wd} (a : Ext M M1) (b : Ext M1 M2) : Ext M M2 := ⟨b.ok, a.g.trans b.g, fun c h => a.t c (b.t c h), fun c o h z => by
  obtain ⟨h1, g1, z1⟩ := a.k c o h z
  obtain ⟨h2, g2, z2⟩ := b.k c o h1 z1
  exact ⟨h2, g2.trans g1, z2⟩⟩
def Ext0 (M M' : Wd) : Prop := Ext M M' ∧ M'.Z = M.Z
theorem Ext0.refl {M : Wd} (o : M.Ok) : Ext0 M M := ⟨.refl o, rfl⟩
theorem Ext0.trans {M M1 M2 : Wd} (a : Ext0 M M1) (b : Ext0 M1 M2) : Ext0 M M2 := ⟨a.1.trans b.1, b.2.trans a.2⟩
/-- a new object that never changes -/
def Wd.add (M : Wd) (p : Addr) (o : HO) : Wd := ⟨upd M.G p o, M.Z, upd M.H p o⟩
theorem upd_same_of {H : Hp} {p : Addr} {o : HO} (h : H p = Option.none) : Same H (upd H p o) := fun b x e => by
  rw [upd_ne (ne_of_none e h)]
  exact e
theorem Wd.Ok.free {M : Wd} (o : M.Ok) {p : Addr} (h : M.H p = Option.none) : M.G p = Option.none ∧ M.Z p = Option.none := ⟨o.g.free h, o.z.free h⟩
theorem Ext0.add {M : Wd} (ok : M.Ok) {p : Addr} {o : HO} (h : M.H p = Option.none) : Ext0 M (M.add p o) := by
  obtain ⟨hg, hz⟩ := ok.free h
  refine ⟨⟨⟨fun b x e => ?_, fun b x e => ?_, fun b x e => ?_⟩, upd_same_of hg, fun b e => ?_, fun b x e z => ?_⟩, rfl⟩
  · by_cases hb : b = p
    · subst hb
      have e' : upd M.G b o b = some x := e
      rw [upd_same] at e'
      show upd M.H b o b = some x
      rw [upd_same]
      exact e'
    · have e' : upd M.G p o b = some x := e
      rw [upd_ne hb] at e'
      show upd M.H p o b = some x
      rw [upd_ne hb]
      exact ok.g _ _ e'
  · show upd M.H p o b = some x
    rw [upd_ne (ne_of_none (ok.z _ _ e) h)]
    exact ok.z _ _ e
  · by_cases hb : b = p
    · subst hb
      exact hz
    · have e' : upd M.G p o b = some x := e
      rw [upd_ne hb] at e'
      exact ok.d _ _ e'
  · by_cases hb : b = p
    · rw [hb]
      exact h
    · have e' : upd M.H p o b = Option.none := e
      rw [upd_ne hb] at e'
      exact e'
  · have hb := ne_of_none e h
    refine ⟨?_, ?_, z⟩
    · show upd M.H p o b = some x
      rw [upd_ne hb]
      exact e
    · show upd M.G p o b = M.G b
      rw [upd_ne hb]
theorem add_at {M : Wd} {p : Addr} {o : HO} : (M.add p o).G p = some o := upd_same

/-! ### what is kept beside -/
structure Vl where
  C : EK → Addr
  Θ : Type
  J : Θ → Hp → Hp → Prop
  mono : ∀ {θ : Θ} {G G' Z : Hp}, Same G G' → J θ G Z → J θ G' Z
/-- nothing -/
abbrev V0 (C : EK → Addr) : Vl := ⟨C, Unit, fun _ _ Z => ∀ b, Z b = Option.none, fun _ h => h⟩
abbrev Vl.at (V : Vl) (θ : V.Θ) (M : Wd) : Prop := V.J θ M.G M.Z
theorem Vl.ext0 {V : Vl} {θ : V.Θ} {M M' : Wd} (e : Ext0 M M') (j : V.at θ M) : V.at θ M' := by
  have h : V.J θ M'.G M.Z := V.mono e.1.g j
  rw [← e.2] at h
  exact h

/-! ### slots -/
inductive Sl where
  | no | is (d : D) | own (ds : List PyData)
abbrev DS := List Sl
def RSl (C : EK → Addr) (M : Wd) (H0 : Hp) (a : Addr) (x : Option (Option V)) : Sl → Prop
  | .no => True
  | .is d => ∃ v, x = some (some v) ∧ Rv C M.G v d
  | .own ds => x = some (some (.ref a)) ∧ M.G a = Option.none ∧ M.Z a = Option.none ∧ H0 a = Option.none ∧ ∃ xs, M.H a = some (.lst xs) ∧ DrAll M.G xs ds
structure Rep (C : EK → Addr) (H0 : Hp) (M : Wd) (σ : L2.St) (ρ : DS) : Prop where
  ok : M.Ok
  len : σ.length = ρ.length
  sl : ∃ am : Nat → Addr, (∀ i j ds es, ρ[i]? = some (.own ds) → ρ[j]? = some (.own es) → am i = am j → i = j) ∧ ∀ i x, ρ[i]? = some x → RSl C M H0 (am i) (σ[i]?) x
section
variable {C : EK → Addr} {H0 : Hp} {M M' : Wd} {σ : L2.St} {ρ : DS}
theorem RSl.ext {a : Addr} {x : Option (Option V)} (e : Ext M M') : ∀ {s : Sl}, RSl C M H0 a x s → RSl C M' H0 a x s
  | .no, _ => trivial
  | .is _, ⟨v, h, r⟩ => ⟨v, h, r.mono e.g⟩
  | .own _, ⟨h, g, z, h0, xs, hx, r⟩ => by
    obtain ⟨k1, k2, k3⟩ := e.k a _ hx z
    exact ⟨h, k2.trans g, k3, h0, xs, k1, r.mono e.g⟩
theorem Rep.ext (r : Rep C H0 M σ ρ) (e : Ext M M') : Rep C H0 M' σ ρ := by
  obtain ⟨am, h1, h2⟩ := r.sl
  exact ⟨e.ok, r.len, am, h1, fun i x h => (h2 i x h).ext e⟩
theorem get_set {α : Type} {l : List α} {i j : Nat} {x y : α} (h : (l.set i x)[j]? = some y) : (i = j ∧ x = y) ∨ (i ≠ j ∧ l[j]? = some y) := by
  by_cases e : i = j
  · subst e
    by_cases hi : i < l.length
    · rw [List.getElem?_set_self hi] at h
      exact .inl ⟨rfl, Option.some.inj h⟩
    · rw [List.getElem?_eq_none (by simpa using hi)] at h
      cases h
  · rw [List.getElem?_set_ne e] at h
    exact .inr ⟨e, h⟩
theorem lt_of_get {α : Type} {l : List α} {i : Nat} {x : α} (h : l[i]? = some x) : i < l.length := by
  by_cases hi : i < l.length
  · exact hi
  · rw [List.getElem?_eq_none (Nat.le_of_not_lt hi)] at h
    cases h
/-- slot i is given data, or forgotten -/
theorem Rep.set (r : Rep C H0 M σ ρ) (i : Nat) {v : V} {d : D} (h : Rv C M.G v d) : Rep C H0 M (σ.set i (some v)) (ρ.set i (.is d)) := by
  obtain ⟨am, h1, h2⟩ := r.sl
  refine ⟨r.ok, by rw [List.length_set, List.length_set]; exact r.len, am, fun j k ds es hj hk e => ?_, fun j x hx => ?_⟩
  · rcases get_set hj with ⟨_, q⟩ | ⟨_, q⟩
    · cases q
    · rcases get_set hk with ⟨_, q'⟩ | ⟨_, q'⟩
      · cases q'
      · exact h1 j k ds es q q' e
  · rcases get_set hx with ⟨rfl, q⟩ | ⟨ne, q⟩
    · subst q
      have hi : i < ρ.length := by
        have := lt_of_get hx
        simpa using this
      exact ⟨v, by rw [List.getElem?_set_self (by rw [r.len]; exact hi)], h⟩
    · have := h2 j x q
      rw [List.getElem?_set_ne ne]
      exact this
theorem Rep.forget (r : Rep C H0 M σ ρ) (i : Nat) (o : Option V) : Rep C H0 M (σ.set i o) (ρ.set i .no) := by
  obtain ⟨am, h1, h2⟩ := r.sl
  refine ⟨r.ok, by rw [List.length_set, List.length_set]; exact r.len, am, fun j k ds es hj hk e => ?_, fun j x hx => ?_⟩
  · rcases get_set hj with ⟨_, q⟩ | ⟨_, q⟩
    · cases q
    · rcases get_set hk with ⟨_, q'⟩ | ⟨_, q'⟩
      · cases q'
      · exact h1 j k ds es q q' e
  · rcases get_set hx with ⟨rfl, q⟩ | ⟨ne, q⟩
    · subst q
      trivial
    · have := h2 j x q
      rw [List.getElem?_set_ne ne]
      exact this
theorem Rep.get (r : Rep C H0 M σ ρ) {i : Nat} {d : D} (h : ρ[i]? = some (.is d)) : ∃ v, σ[i]? = some (some v) ∧ Rv C M.G v d := by
  obtain ⟨am, _, h2⟩ := r.sl
  exact h2 i _ h
theorem Rep.getOwn (r : Rep C H0 M σ ρ) {i : Nat} {ds : List PyData} (h : ρ[i]? = some (.own ds)) : ∃ a xs, σ[i]? = some (some (.ref a)) ∧ M.G a = Option.none ∧ M.Z a = Option.none ∧ H0 a = Option.none ∧ M.H a = some (.lst xs) ∧ DrAll M.G xs ds := by
  obtain ⟨am, _, h2⟩ := r.sl
  obtain ⟨e, g, z, h0, xs, hx, rr⟩ := h2 i _ h
  exact ⟨_, xs, e, g, z, h0, hx, rr⟩
/-- the own list of slot i is written -/
def Wd.put (M : Wd) (p : Addr) (o : HO) : Wd := ⟨M.G, M.Z, upd M.H p o⟩
theorem put_ok (ok : M.Ok) {p : Addr} {o : HO} (g : M.G p = Option.none) (z : M.Z p = Option.none) : (M.put p o).Ok := by
  refine ⟨fun b x e => ?_, fun b x e => ?_, ok.d⟩
  · show upd M.H p o b = some x
    rw [upd_ne (ne_of_none (show M.G b = some x from e) g)]
    exact ok.g _ _ e
  · show upd M.H p o b = some x
    rw [upd_ne (ne_of_none (show M.Z b = some x from e) z)]
    exact ok.z _ _ e
theorem Rep.put (r : Rep C H0 M σ ρ) {i : Nat} {ds es : List PyData} {a : Addr} {ys : List V} (h : ρ[i]? = some (.own ds)) (ha : σ[i]? = some (some (.ref a))) (g : M.G a = Option.none) (z : M.Z a = Option.none) (hy : DrAll M.G ys es) :
    Rep C H0 (M.put a (.lst ys)) σ (ρ.set i (.own es)) := by
  obtain ⟨am, h1, h2⟩ := r.sl
  have hi := h2 i _ h
  have ea : am i = a := by
    have q : some (some (V.ref a)) = some (some (V.ref (am i))) := ha.symm.trans hi.1
    injection q with q
    injection q with q
    injection q with q
    exact q.symm
  refine ⟨put_ok r.ok g z, by rw [List.length_set]; exact r.len, am, fun j k d1 d2 hj hk e => ?_, fun j x hx => ?_⟩
  · have f : ∀ {j ds'}, (ρ.set i (Sl.own es))[j]? = some (Sl.own ds') → ∃ d, ρ[j]? = some (Sl.own d) := fun {j ds'} q => by
      rcases get_set q with ⟨rfl, _⟩ | ⟨_, q⟩
      · exact ⟨_, h⟩
      · exact ⟨_, q⟩
    obtain ⟨_, q1⟩ := f hj
    obtain ⟨_, q2⟩ := f hk
    exact h1 j k _ _ q1 q2 e
  · rcases get_set hx with ⟨rfl, q⟩ | ⟨ne, q⟩
    · subst q
      rw [ea]
      exact ⟨ha, g, z, by rw [← ea]; exact hi.2.2.2.1, ys, upd_same, hy⟩
    · have s := h2 j x q
      cases x with
      | no => trivial
      | is d => exact s
      | own d2 =>
        obtain ⟨e1, e2, e3, e4, xs, hx', r'⟩ := s
        refine ⟨e1, e2, e3, e4, xs, ?_, r'⟩
        show upd M.H a (.lst ys) (am j) = _
        rw [upd_ne ?_]
        · exact hx'
        · intro q'
          exact ne (h1 i j _ _ h q (ea.trans q'.symm))
/-- slot i is given a new own list -/
theorem Rep.newOwn (r : Rep C H0 M σ ρ) (i : Nat) {p : Addr} {ys : List V} {es : List PyData} (hp : M.H p = Option.none) (h0 : H0 p = Option.none) (hy : DrAll M.G ys es) : Rep C H0 (M.put p (.lst ys)) (σ.set i (some (.ref p))) (ρ.set i (.own es)) := by
  obtain ⟨am, h1, h2⟩ := r.sl
  obtain ⟨g, z⟩ := r.ok.free hp
  refine ⟨put_ok r.ok g z, by rw [List.length_set, List.length_set]; exact r.len, fun j => if j = i then p else am j, fun j k d1 d2 hj hk e => ?_, fun j x hx => ?_⟩
  · have ap : ∀ {j d}, ρ[j]? = some (.own d) → am j ≠ p := fun {j d} q => by
      obtain ⟨_, _, _, _, xs, hx', _⟩ := h2 j _ q
      exact ne_of_none hx' hp
    rcases get_set hj with ⟨rfl, _⟩ | ⟨n1, q1⟩
    · rcases get_set hk with ⟨rfl, _⟩ | ⟨n2, q2⟩
      · rfl
      · simp only [if_true, if_neg (Ne.symm n2)] at e
        exact absurd e.symm (ap q2)
    · rcases get_set hk with ⟨rfl, _⟩ | ⟨n2, q2⟩
      · simp only [if_true, if_neg (Ne.symm n1)] at e
        exact absurd e (ap q1)
      · simp only [if_neg (Ne.symm n1), if_neg (Ne.symm n2)] at e
        exact h1 j k _ _ q1 q2 e
  · rcases get_set hx with ⟨rfl, q⟩ | ⟨ne, q⟩
    · subst q
      simp only [if_true]
      have hi : i < ρ.length := by
        have := lt_of_get hx
        simpa using this
      exact ⟨by rw [List.getElem?_set_self (by rw [r.len]; exact hi)], g, z, h0, ys, upd_same, hy⟩
    · rw [List.getElem?_set_ne ne]
      simp only [if_neg (Ne.symm ne)]
      have s := h2 j x q
      cases x with
      | no => trivial
      | is d => exact s
      | own d2 =>
        obtain ⟨e1, e2, e3, e4, xs, hx', r'⟩ := s
        refine ⟨e1, e2, e3, e4, xs, ?_, r'⟩
        show upd M.H p (.lst ys) (am j) = _
        rw [upd_ne (ne_of_none hx' hp)]
        exact hx'
end
end RT
end
section
set_option Elab.async false
set_option linter.all false
set_option maxRecDepth 100000
set_option maxHeartbeats 2000000
namespace RT
open PySem PySem.Spec PyProof.Rows L2
abbrev WE (Θ : Type) := DS → Θ → (D → Θ → Prop) → (EK → Θ → Prop) → Prop
abbrev WA (Θ : Type) := DS → Θ → (List D → Θ → Prop) → (EK → Θ → Prop) → Prop
abbrev WT (Θ : Type) := DS → Θ → (Bool → Θ → Prop) → (EK → Θ → Prop) → Prop
/-! ### strict and reading -/
inductive Md where
  | s | r
def OwnL (M : Wd) (v : V) (d : D) : Prop := ∃ a xs ds, v = .ref a ∧ d = .py (.list ds) ∧ M.H a = some (.lst xs) ∧ M.G a = none ∧ M.Z a = none ∧ DrAll M.G xs ds
def Re (C : EK → Addr) : Md → Wd → V → D → Prop
  | .s, M, v, d => Rv C M.G v d
  | .r, M, v, d => Rv C M.G v d ∨ OwnL M v d
theorem Re.r {C : EK → Addr} {M : Wd} {v : V} {d : D} : ∀ {m : Md}, Re C m M v d → Re C .r M v d
  | .s, h => .inl h
  | .r, h => h
theorem Re.ext {C : EK → Addr} {M M' : Wd} {v : V} {d : D} (e : Ext M M') : ∀ {m : Md}, Re C m M v d → Re C m M' v d
  | .s, h => Rv.mono e.g h
  | .r, .inl h => .inl (Rv.mono e.g h)
  | .r, .inr ⟨a, xs, ds, e1, e2, h, g, z, r⟩ => by
    obtain ⟨k1, k2, k3⟩ := e.k a _ h z
    exact .inr ⟨a, xs, ds, e1, e2, k1, k2.trans g, k3, r.mono e.g⟩
section
variable {C : EK → Addr} {M : Wd} {v : V}
theorem Re.list {ds : List PyData} (ok : M.Ok) (h : Re C .r M v (.py (.list ds))) : ∃ a xs, v = .ref a ∧ M.H a = some (.lst xs) ∧ DrAll M.G xs ds := by
  rcases h with h | ⟨a, xs, ds', e1, e2, h, _, _, r⟩
  · cases (show Dr M.G v (.list ds) from h) with
    | lst e r => exact ⟨_, _, rfl, ok.g _ _ e, r⟩
  · cases e2
    exact ⟨a, xs, e1, h, r⟩
theorem Re.tuple {ds : List PyData} (ok : M.Ok) (h : Re C .r M v (.py (.tuple ds))) : ∃ a xs, v = .ref a ∧ M.H a = some (.tup xs) ∧ DrAll M.G xs ds := by
  rcases h with h | ⟨a, xs, ds', e1, e2, h, _, _, r⟩
  · cases (show Dr M.G v (.tuple ds) from h) with
    | tup e r => exact ⟨_, _, rfl, ok.g _ _ e, r⟩
  · cases e2
theorem Re.int {i : Int} (h : Re C .r M v (.py (.int i))) : v = .int i := by
  rcases h with h | ⟨a, xs, ds', e1, e2, _⟩
  · cases (show Dr M.G v (.int i) from h)
    rfl
  · cases e2
theorem Re.str {i : Str} (h : Re C .r M v (.py (.str i))) : v = .str i := by
  rcases h with h | ⟨a, xs, ds', e1, e2, _⟩
  · cases (show Dr M.G v (.str i) from h)
    rfl
  · cases e2
theorem Re.bl {i : Bool} (h : Re C .r M v (.py (.bool i))) : v = .bl i := by
  rcases h with h | ⟨a, xs, ds', e1, e2, _⟩
  · cases (show Dr M.G v (.bool i) from h)
    rfl
  · cases e2
theorem Re.non (h : Re C .r M v (.py .none)) : v = .non := by
  rcases h with h | ⟨a, xs, ds', e1, e2, _⟩
  · cases (show Dr M.G v .none from h)
    rfl
  · cases e2
theorem Re.dp (K : PySem.W.Frag) {d : PyData} (ok : M.Ok) (h : Re C .r M v (.py d)) : Dp K M.H v d := by
  rcases h with h | ⟨a, xs, ds', e1, e2, h, _, _, r⟩
  · exact (Dr.mono ok.g h).dp K
  · cases e2
    subst e1
    exact .lst (.of h) ((r.mono ok.g).dp K)
end
/-! ### readings as data -/
variable {X : Cx} {L : Vl} {Wx : WX}
def RXe (L : Vl) (Wx : WX) (m : Md) (t : TE) (w : WE L.Θ) : Prop := ∀ (H0 : Hp) (M : Wd) (σ : L2.St) (ρ : DS) (θ : L.Θ) (Q : VK) (N : D → L.Θ → Prop) (Nx : EK → L.Θ → Prop), Rep L.C H0 M σ ρ → L.at θ M → w ρ θ N Nx →
  (∀ d θ' M' v, Ext M M' → L.at θ' M' → Re L.C m M' v d → N d θ' → Q v M'.H) → (∀ k θ' M', Ext M M' → L.at θ' M' → Nx k θ' → Wx (.ref (L.C k)) none σ M'.H) → t σ M.H Q
def RXa (L : Vl) (Wx : WX) (m : Md) (t : TA) (w : WA L.Θ) : Prop := ∀ (H0 : Hp) (M : Wd) (σ : L2.St) (ρ : DS) (θ : L.Θ) (Q : List V → Hp → Prop) (N : List D → L.Θ → Prop) (Nx : EK → L.Θ → Prop), Rep L.C H0 M σ ρ → L.at θ M → w ρ θ N Nx →
  (∀ ds θ' M' vs, Ext M M' → L.at θ' M' → Paired (Re L.C m M') vs ds → N ds θ' → Q vs M'.H) → (∀ k θ' M', Ext M M' → L.at θ' M' → Nx k θ' → Wx (.ref (L.C k)) none σ M'.H) → t σ M.H Q
def RXt (L : Vl) (Wx : WX) (t : TT) (w : WT L.Θ) : Prop := ∀ (H0 : Hp) (M : Wd) (σ : L2.St) (ρ : DS) (θ : L.Θ) (Q : Bool → Hp → Prop) (N : Bool → L.Θ → Prop) (Nx : EK → L.Θ → Prop), Rep L.C H0 M σ ρ → L.at θ M → w ρ θ N Nx →
  (∀ b θ' M', Ext M M' → L.at θ' M' → N b θ' → Q b M'.H) → (∀ k θ' M', Ext M M' → L.at θ' M' → Nx k θ' → Wx (.ref (L.C k)) none σ M'.H) → t σ M.H Q
structure EX (X : Cx) (L : Vl) (Wx : WX) (m : Md) (e : Expr) (w : WE L.Θ) : Prop where
  ex : ∃ t, PE X e t ∧ RXe L Wx m t w
structure AX (X : Cx) (L : Vl) (Wx : WX) (m : Md) (es : List Expr) (w : WA L.Θ) : Prop where
  ex : ∃ t, PA X es t ∧ RXa L Wx m t w
structure TX (X : Cx) (L : Vl) (Wx : WX) (e : Expr) (w : WT L.Θ) : Prop where
  ex : ∃ t, PT X e t ∧ RXt L Wx t w
structure TW (X : Cx) (L : Vl) (Wx : WX) (e : Expr) (w : WT L.Θ) : Prop where
  ex : ∃ t, PW X e t ∧ RXt L Wx t w
section
variable {m : Md} {a b c : Expr} {rest : List Expr} {wa wb : WE L.Θ} {ta tb : WT L.Θ} {pos : Pos}
/-! ### names, constants -/
def wVar {Θ : Type} (i : Nat) : WE Θ := fun ρ θ N _ => ∃ d, ρ[i]? = some (.is d) ∧ N d θ
def wOwn {Θ : Type} (i : Nat) : WE Θ := fun ρ θ N _ => ∃ ds, ρ[i]? = some (.own ds) ∧ N (.py (.list ds)) θ
def wC {Θ : Type} (d : PyData) : WE Θ := fun _ θ N _ => N (.py d) θ
theorem ex_var (i : Nat) {x : Str} (hN : X.N[i]? = some x := by rfl) (hv : Vis X.env.scope x := by first | exact Or.inl rfl | exact Or.inr (Or.inl rfl) | exact Or.inr (Or.inr rfl)) (hd : (x == ("__debug__" : Str)) = false := by decide)
    (hcd : (x == ("__classdict__" : Str)) = false := by decide) : EX X L Wx .s (.Name x pos) (wVar i) := by
  refine ⟨_, pe_var hN hv hd hcd, fun H0 M σ ρ θ Q N Nx rep j hw hN hX => ?_⟩
  obtain ⟨d, h, n⟩ := hw
  obtain ⟨v, e, r⟩ := rep.get h
  exact ⟨v, e, hN d θ M v (.refl rep.ok) j r n⟩
theorem ex_own (i : Nat) {x : Str} (hN : X.N[i]? = some x := by rfl) (hv : Vis X.env.scope x := by first | exact Or.inl rfl | exact Or.inr (Or.inl rfl) | exact Or.inr (Or.inr rfl)) (hd : (x == ("__debug__" : Str)) = false := by decide)
    (hcd : (x == ("__classdict__" : Str)) = false := by decide) : EX X L Wx .r (.Name x pos) (wOwn i) := by
  refine ⟨_, pe_var hN hv hd hcd, fun H0 M σ ρ θ Q N Nx rep j hw hN hX => ?_⟩
  obtain ⟨ds, h, n⟩ := hw
  obtain ⟨a, xs, e, g, z, _, hx, r⟩ := rep.getOwn h
  exact ⟨_, e, hN _ θ M _ (.refl rep.ok) j (.inr ⟨a, xs, ds, rfl, rfl, hx, g, z, r⟩) n⟩
theorem ex_const {e : Expr} {v : V} {d : PyData} (h : PE X e (tC v)) (r : ∀ G, Dr G v d) : EX X L Wx .s e (wC d) :=
  ⟨_, h, fun H0 M σ ρ θ Q N Nx rep j hw hN hX => hN (.py d) θ M v (.refl rep.ok) j (r _) hw⟩
theorem ex_int {i : Int} {j : Nat} : EX X L Wx .s (.Constant (.int i) j pos) (wC (.int i)) := ex_const pe_int fun _ => .int i
theorem ex_bl {i : Bool} {j : Nat} : EX X L Wx .s (.Constant (.bool i) j pos) (wC (.bool i)) := ex_const pe_bl fun _ => .bl i
theorem ex_non {j : Nat} : EX X L Wx .s (.Constant .none j pos) (wC .none) := ex_const pe_non fun _ => .non
theorem ex_str {x : Str} {j : Nat} : EX X L Wx .s (.Constant (.str x) j pos) (wC (.str x)) := ex_const pe_str fun _ => .str x
theorem ex_gint {x : Str} {i : Int} (hg : Gl X x) (hm : ∃ t, X.mg x = some (.int i t)) (hd : (x == ("__debug__" : Str)) = false := by decide) : EX X L Wx .s (.Name x pos) (wC (.int i)) := by
  obtain ⟨t, hm⟩ := hm
  exact ex_const (pe_glob (v := .int i) hg hm ⟨t, rfl⟩ hd) fun _ => .int i
theorem ex_gstr {x z : Str} (hg : Gl X x) (hm : ∃ t, X.mg x = some (.str z t)) (hd : (x == ("__debug__" : Str)) = false := by decide) : EX X L Wx .s (.Name x pos) (wC (.str z)) := by
  obtain ⟨t, hm⟩ := hm
  exact ex_const (pe_glob (v := .str z) hg hm ⟨t, rfl⟩ hd) fun _ => .str z
theorem EX.rd {e : Expr} (h : EX X L Wx m e wa) : EX X L Wx .r e wa := by
  obtain ⟨t, h1, h2⟩ := h
  exact ⟨t, h1, fun H0 M σ ρ θ Q N Nx rep j hw hN hX => h2 H0 M σ ρ θ Q N Nx rep j hw (fun d θ' M' v e j r n => hN d θ' M' v e j r.r n) hX⟩
/-! ### operators -/
abbrev F2 := D → D → Option D
structure OpD (X : Cx) (C : EK → Addr) (g : Value → Value → Sem Value) (f : F2) (okc : D → D → Prop) : Prop where
  ex : ∃ r, OpR X g r ∧ ∀ (M : Wd) (x y : V) (dx dy d : D) (Q : VK), M.Ok → Re C .r M x dx → Re C .r M y dy → f dx dy = some d → okc dx dy → (∀ M' v, Ext0 M M' → Rv C M'.G v d → Q v M'.H) → r x y M.H Q
def wOp {Θ : Type} (f : F2) (okc : D → D → Prop) (wa wb : WE Θ) : WE Θ := fun ρ θ N Nx => wa ρ θ (fun x θ1 => wb ρ θ1 (fun y θ2 => ∃ d, f x y = some d ∧ okc x y ∧ N d θ2) Nx) Nx
theorem rx_op {m' : Md} {r : R2} {f : F2} {okc : D → D → Prop} {t u : TE} (h1 : RXe L Wx m t wa) (h2 : RXe L Wx m' u wb)
    (hr : ∀ (M : Wd) (x y : V) (dx dy d : D) (Q : VK), M.Ok → Re L.C .r M x dx → Re L.C .r M y dy → f dx dy = some d → okc dx dy → (∀ M' v, Ext0 M M' → Rv L.C M'.G v d → Q v M'.H) → r x y M.H Q) : RXe L Wx .s (tOp r t u) (wOp f okc wa wb) := by
  intro H0 M σ ρ θ Q N Nx rep j hw hN hX
  refine h1 H0 M σ ρ θ _ _ Nx rep j hw (fun x θ1 M1 v1 e1 j1 r1 n1 => ?_) hX
  refine h2 H0 M1 σ ρ θ1 _ _ Nx (rep.ext e1) j1 n1 (fun y θ2 M2 v2 e2 j2 r2 n2 => ?_) (fun k θ' M' e j n => hX k θ' M' (e1.trans e) j n)
  obtain ⟨d, hf, hok, n⟩ := n2
  exact hr M2 v1 v2 x y d Q e2.ok (r1.ext e2).r r2.r hf hok (fun M' v e r => hN d θ2 M' v (e1.trans (e2.trans e.1)) (L.ext0 e j2) r n)
theorem ex_op {m' : Md} {op : Operator} {f : F2} {okc : D → D → Prop} (o : OpD X L.C (binaryOp op) f okc) (ha : EX X L Wx m a wa) (hb : EX X L Wx m' b wb) : EX X L Wx .s (.BinOp a op b pos) (wOp f okc wa wb) := by
  obtain ⟨r, o1, o2⟩ := o
  obtain ⟨t, a1, a2⟩ := ha
  obtain ⟨u, b1, b2⟩ := hb
  exact ⟨_, pe_op o1 a1 b1, rx_op a2 b2 o2⟩
theorem ex_cmp {m' : Md} {op : CmpOp} {f : F2} {okc : D → D → Prop} (o : OpD X L.C (compareOp op) f okc) (ha : EX X L Wx m a wa) (hb : EX X L Wx m' b wb) (hm : behindInMarks op b = false := by first | exact nomark _ | rfl) : EX X L Wx .s (.Compare a [op] [b] pos) (wOp f okc wa wb) := by
  obtain ⟨r, o1, o2⟩ := o
  obtain ⟨t, a1, a2⟩ := ha
  obtain ⟨u, b1, b2⟩ := hb
  exact ⟨_, pe_cmpR o1 a1 b1 hm, rx_op a2 b2 o2⟩
def wT {Θ : Type} (w : WE Θ) : WT Θ := fun ρ θ N Nx => w ρ θ (fun d θ' => ∃ b, d = .py (.bool b) ∧ N b θ') Nx
theorem rx_test {t : TE} (h : RXe L Wx .s t wa) : RXt L Wx (tTest t) (wT wa) := by
  intro H0 M σ ρ θ Q N Nx rep j hw hN hX
  refine h H0 M σ ρ θ _ _ Nx rep j hw (fun x θ1 M1 v1 e1 j1 r1 n1 => ?_) hX
  obtain ⟨b, rfl, n⟩ := n1
  cases (show Dr M1.G v1 (.bool b) from r1)
  exact ⟨b, rfl, hN b θ1 M1 e1 j1 n⟩
theorem tx_cmp {m' : Md} {op : CmpOp} {f : F2} {okc : D → D → Prop} (o : OpD X L.C (compareOp op) f okc) (ha : EX X L Wx m a wa) (hb : EX X L Wx m' b wb) (hm : behindInMarks op b = false := by first | exact nomark _ | rfl) : TX X L Wx (.Compare a [op] [b] pos) (wT (wOp f okc wa wb)) := by
  obtain ⟨r, o1, o2⟩ := o
  obtain ⟨t, a1, a2⟩ := ha
  obtain ⟨u, b1, b2⟩ := hb
  exact ⟨_, pt_cmpR o1 a1 b1 hm, rx_test (rx_op a2 b2 o2)⟩
theorem tx_val {e : Expr} (h : EX X L Wx .s e wa) (he : ∀ whole, isTrue e X.env whole = (do let v ← whole; standAt e.pos; holding [v] (truthy v)) := by intro _; rfl) : TX X L Wx e (wT wa) := by
  obtain ⟨t, h1, h2⟩ := h
  exact ⟨_, pt_val h1 he, rx_test h2⟩
/-- a < b < c -/
def wChain {Θ : Type} (f : F2) (okc : D → D → Prop) (f' : F2) (okc' : D → D → Prop) (wa wb wc : WE Θ) : WE Θ := fun ρ θ N Nx => wa ρ θ (fun x θ1 => wb ρ θ1 (fun y θ2 => ∃ k, f x y = some (.py (.bool k)) ∧ okc x y ∧
  if k = true then wc ρ θ2 (fun z θ3 => ∃ d, f' y z = some d ∧ okc' y z ∧ N d θ3) Nx else N (.py (.bool false)) θ2) Nx) Nx
theorem rx_chain {m' m'' : Md} {wc : WE L.Θ} {r r' : R2} {f f' : F2} {okc okc' : D → D → Prop} {t u s : TE} (h1 : RXe L Wx m t wa) (h2 : RXe L Wx m' u wb) (h3 : RXe L Wx m'' s wc)
    (hr : ∀ (M : Wd) (x y : V) (dx dy d : D) (Q : VK), M.Ok → Re L.C .r M x dx → Re L.C .r M y dy → f dx dy = some d → okc dx dy → (∀ M' v, Ext0 M M' → Rv L.C M'.G v d → Q v M'.H) → r x y M.H Q)
    (hr' : ∀ (M : Wd) (x y : V) (dx dy d : D) (Q : VK), M.Ok → Re L.C .r M x dx → Re L.C .r M y dy → f' dx dy = some d → okc' dx dy → (∀ M' v, Ext0 M M' → Rv L.C M'.G v d → Q v M'.H) → r' x y M.H Q) : RXe L Wx .s (tChain r r' t u s) (wChain f okc f' okc' wa wb wc) := by
  intro H0 M σ ρ θ Q N Nx rep j hw hN hX
  refine h1 H0 M σ ρ θ _ _ Nx rep j hw (fun x θ1 M1 v1 e1 j1 r1 n1 => ?_) hX
  refine h2 H0 M1 σ ρ θ1 _ _ Nx (rep.ext e1) j1 n1 (fun y θ2 M2 v2 e2 j2 r2 n2 => ?_) (fun k θ' M' e j n => hX k θ' M' (e1.trans e) j n)
  obtain ⟨k, hf, hok, n⟩ := n2
  refine hr M2 v1 v2 x y _ _ e2.ok (r1.ext e2).r r2.r hf hok (fun M3 v3 e3 r3 => ?_)
  cases (show Dr M3.G v3 (.bool k) from r3)
  refine ⟨k, rfl, ?_⟩
  have j3 := L.ext0 e3 j2
  have e13 := e1.trans (e2.trans e3.1)
  cases k with
  | false => exact hN (.py (.bool false)) θ2 M3 _ e13 j3 (Dr.bl false) n
  | true =>
    refine h3 H0 M3 σ ρ θ2 _ _ Nx (rep.ext e13) j3 n (fun z θ4 M4 v4 e4 j4 r4 n4 => ?_) (fun k θ' M' e j n => hX k θ' M' (e13.trans e) j n)
    obtain ⟨d, hf', hok', n⟩ := n4
    exact hr' M4 v2 v4 y z d Q e4.ok ((r2.ext e3.1).ext e4).r r4.r hf' hok' (fun M' v e r => hN d θ4 M' v (e13.trans (e4.trans e.1)) (L.ext0 e j4) r n)
theorem ex_chain {m' m'' : Md} {wc : WE L.Θ} {op op' : CmpOp} {f f' : F2} {okc okc' : D → D → Prop} (o : OpD X L.C (compareOp op) f okc) (o' : OpD X L.C (compareOp op') f' okc') (ha : EX X L Wx m a wa) (hb : EX X L Wx m' b wb) (hc : EX X L Wx m'' c wc) (hm : lastMarks [op, op'] [b, c] = false := by with_unfolding_all rfl) : EX X L Wx .s (.Compare a [op, op'] [b, c] pos) (wChain f okc f' okc' wa wb wc) := by
  obtain ⟨r, o1, o2⟩ := o
  obtain ⟨r', o1', o2'⟩ := o'
  obtain ⟨t, a1, a2⟩ := ha
  obtain ⟨u, b1, b2⟩ := hb
  obtain ⟨s, c1, c2⟩ := hc
  exact ⟨_, pe_chain o1 o1' a1 b1 c1 hm, rx_chain a2 b2 c2 o2 o2'⟩
theorem tx_chain {m' m'' : Md} {wc : WE L.Θ} {op op' : CmpOp} {f f' : F2} {okc okc' : D → D → Prop} (o : OpD X L.C (compareOp op) f okc) (o' : OpD X L.C (compareOp op') f' okc') (ha : EX X L Wx m a wa) (hb : EX X L Wx m' b wb) (hc : EX X L Wx m'' c wc) (hm : lastMarks [op, op'] [b, c] = false := by with_unfolding_all rfl) : TX X L Wx (.Compare a [op, op'] [b, c] pos) (wT (wChain f okc f' okc' wa wb wc)) := by
  obtain ⟨r, o1, o2⟩ := o
  obtain ⟨r', o1', o2'⟩ := o'
  obtain ⟨t, a1, a2⟩ := ha
  obtain ⟨u, b1, b2⟩ := hb
  obtain ⟨s, c1, c2⟩ := hc
  exact ⟨_, pt_chain o1 o1' a1 b1 c1 hm, rx_test (rx_chain a2 b2 c2 o2 o2')⟩
/-! ### and, or, not, if -/
def wAndT {Θ : Type} (ta tb : WT Θ) : WT Θ := fun ρ θ N Nx => ta ρ θ (fun c θ1 => if c = true then tb ρ θ1 N Nx else N false θ1) Nx
def wOrT {Θ : Type} (ta tb : WT Θ) : WT Θ := fun ρ θ N Nx => ta ρ θ (fun c θ1 => if c = true then N true θ1 else tb ρ θ1 N Nx) Nx
def wNotT {Θ : Type} (ta : WT Θ) : WT Θ := fun ρ θ N Nx => ta ρ θ (fun c θ1 => N (!c) θ1) Nx
theorem TW.tx {e : Expr} (h : TW X L Wx e ta) : TX X L Wx e ta := by
  obtain ⟨t, h1, h2⟩ := h
  exact ⟨t, h1.pt, h2⟩
theorem tw_and1 (ha : TX X L Wx a ta) : TW X L Wx (.BoolOp .And [a] pos) ta := by
  obtain ⟨t, h1, h2⟩ := ha
  exact ⟨t, pw_and1 h1, h2⟩
theorem tw_or1 (ha : TX X L Wx a ta) : TW X L Wx (.BoolOp .Or [a] pos) ta := by
  obtain ⟨t, h1, h2⟩ := ha
  exact ⟨t, pw_or1 h1, h2⟩
theorem tw_and (ha : TX X L Wx a ta) (hb : TW X L Wx (.BoolOp .And (b :: rest) pos) tb) : TW X L Wx (.BoolOp .And (a :: b :: rest) pos) (wAndT ta tb) := by
  obtain ⟨t, a1, a2⟩ := ha
  obtain ⟨u, b1, b2⟩ := hb
  refine ⟨_, pw_and a1 b1, fun H0 M σ ρ θ Q N Nx rep j hw hN hX => ?_⟩
  refine a2 H0 M σ ρ θ _ _ Nx rep j hw (fun k θ1 M1 e1 j1 n1 => ?_) hX
  cases k with
  | false => exact hN false θ1 M1 e1 j1 n1
  | true => exact b2 H0 M1 σ ρ θ1 _ _ Nx (rep.ext e1) j1 n1 (fun k θ' M' e j n => hN k θ' M' (e1.trans e) j n) (fun k θ' M' e j n => hX k θ' M' (e1.trans e) j n)
theorem tw_or (ha : TX X L Wx a ta) (hb : TW X L Wx (.BoolOp .Or (b :: rest) pos) tb) : TW X L Wx (.BoolOp .Or (a :: b :: rest) pos) (wOrT ta tb) := by
  obtain ⟨t, a1, a2⟩ := ha
  obtain ⟨u, b1, b2⟩ := hb
  refine ⟨_, pw_or a1 b1, fun H0 M σ ρ θ Q N Nx rep j hw hN hX => ?_⟩
  refine a2 H0 M σ ρ θ _ _ Nx rep j hw (fun k θ1 M1 e1 j1 n1 => ?_) hX
  cases k with
  | true => exact hN true θ1 M1 e1 j1 n1
  | false => exact b2 H0 M1 σ ρ θ1 _ _ Nx (rep.ext e1) j1 n1 (fun k θ' M' e j n => hN k θ' M' (e1.trans e) j n) (fun k θ' M' e j n => hX k θ' M' (e1.trans e) j n)
theorem tx_not (ha : TX X L Wx a ta) : TX X L Wx (.UnaryOp .Not a pos) (wNotT ta) := by
  obtain ⟨t, a1, a2⟩ := ha
  exact ⟨_, pt_not a1, fun H0 M σ ρ θ Q N Nx rep j hw hN hX => a2 H0 M σ ρ θ _ _ Nx rep j hw (fun k θ1 M1 e1 j1 n1 => hN _ θ1 M1 e1 j1 n1) hX⟩
def wAnd {Θ : Type} (wa wb : WE Θ) : WE Θ := fun ρ θ N Nx => wa ρ θ (fun x θ1 => ∃ c, x = .py (.bool c) ∧ if c = true then wb ρ θ1 N Nx else N (.py (.bool false)) θ1) Nx
def wOr {Θ : Type} (wa wb : WE Θ) : WE Θ := fun ρ θ N Nx => wa ρ θ (fun x θ1 => ∃ c, x = .py (.bool c) ∧ if c = true then N (.py (.bool true)) θ1 else wb ρ θ1 N Nx) Nx
def wNot {Θ : Type} (wa : WE Θ) : WE Θ := fun ρ θ N Nx => wa ρ θ (fun x θ1 => ∃ c, x = .py (.bool c) ∧ N (.py (.bool (!c))) θ1) Nx
theorem ex_one {op : BoolOp} (ha : EX X L Wx m a wa) : EX X L Wx m (.BoolOp op [a] pos) wa := by
  obtain ⟨t, h1, h2⟩ := ha
  exact ⟨t, pe_one h1, h2⟩
theorem ex_and (ha : EX X L Wx .s a wa) (hb : EX X L Wx .s (.BoolOp .And (b :: rest) pos) wb) : EX X L Wx .s (.BoolOp .And (a :: b :: rest) pos) (wAnd wa wb) := by
  obtain ⟨t, a1, a2⟩ := ha
  obtain ⟨u, b1, b2⟩ := hb
  refine ⟨_, pe_and a1 b1, fun H0 M σ ρ θ Q N Nx rep j hw hN hX => ?_⟩
  refine a2 H0 M σ ρ θ _ _ Nx rep j hw (fun x θ1 M1 v1 e1 j1 r1 n1 => ?_) hX
  obtain ⟨k, rfl, n⟩ := n1
  cases (show Dr M1.G v1 (.bool k) from r1)
  refine ⟨k, rfl, ?_⟩
  cases k with
  | false => exact hN (.py (.bool false)) θ1 M1 _ e1 j1 (Dr.bl false) n
  | true => exact b2 H0 M1 σ ρ θ1 _ _ Nx (rep.ext e1) j1 n (fun d θ' M' v e j r n => hN d θ' M' v (e1.trans e) j r n) (fun k θ' M' e j n => hX k θ' M' (e1.trans e) j n)
theorem ex_or (ha : EX X L Wx .s a wa) (hb : EX X L Wx .s (.BoolOp .Or (b :: rest) pos) wb) : EX X L Wx .s (.BoolOp .Or (a :: b :: rest) pos) (wOr wa wb) := by
  obtain ⟨t, a1, a2⟩ := ha
  obtain ⟨u, b1, b2⟩ := hb
  refine ⟨_, pe_or a1 b1, fun H0 M σ ρ θ Q N Nx rep j hw hN hX => ?_⟩
  refine a2 H0 M σ ρ θ _ _ Nx rep j hw (fun x θ1 M1 v1 e1 j1 r1 n1 => ?_) hX
  obtain ⟨k, rfl, n⟩ := n1
  cases (show Dr M1.G v1 (.bool k) from r1)
  refine ⟨k, rfl, ?_⟩
  cases k with
  | true => exact hN (.py (.bool true)) θ1 M1 _ e1 j1 (Dr.bl true) n
  | false => exact b2 H0 M1 σ ρ θ1 _ _ Nx (rep.ext e1) j1 n (fun d θ' M' v e j r n => hN d θ' M' v (e1.trans e) j r n) (fun k θ' M' e j n => hX k θ' M' (e1.trans e) j n)
theorem ex_not (ha : EX X L Wx .s a wa) : EX X L Wx .s (.UnaryOp .Not a pos) (wNot wa) := by
  obtain ⟨t, a1, a2⟩ := ha
  refine ⟨_, pe_not a1, fun H0 M σ ρ θ Q N Nx rep j hw hN hX => ?_⟩
  refine a2 H0 M σ ρ θ _ _ Nx rep j hw (fun x θ1 M1 v1 e1 j1 r1 n1 => ?_) hX
  obtain ⟨k, rfl, n⟩ := n1
  cases (show Dr M1.G v1 (.bool k) from r1)
  exact ⟨k, rfl, hN (.py (.bool (!k))) θ1 M1 _ e1 j1 (Dr.bl _) n⟩
def wIf {Θ : Type} (t : WT Θ) (wa wb : WE Θ) : WE Θ := fun ρ θ N Nx => t ρ θ (fun c θ1 => if c = true then wa ρ θ1 N Nx else wb ρ θ1 N Nx) Nx
theorem ex_if {t : WT L.Θ} (hc : TX X L Wx c t) (ha : EX X L Wx m a wa) (hb : EX X L Wx m b wb) : EX X L Wx m (.IfExp c a b pos) (wIf t wa wb) := by
  obtain ⟨u, c1, c2⟩ := hc
  obtain ⟨t, a1, a2⟩ := ha
  obtain ⟨u, b1, b2⟩ := hb
  refine ⟨_, pe_ifExp c1 a1 b1, fun H0 M σ ρ θ Q N Nx rep j hw hN hX => ?_⟩
  refine c2 H0 M σ ρ θ _ _ Nx rep j hw (fun k θ1 M1 e1 j1 n1 => ?_) hX
  cases k with
  | true => exact a2 H0 M1 σ ρ θ1 _ _ Nx (rep.ext e1) j1 n1 (fun d θ' M' v e j r n => hN d θ' M' v (e1.trans e) j r n) (fun k θ' M' e j n => hX k θ' M' (e1.trans e) j n)
  | false => exact b2 H0 M1 σ ρ θ1 _ _ Nx (rep.ext e1) j1 n1 (fun d θ' M' v e j r n => hN d θ' M' v (e1.trans e) j r n) (fun k θ' M' e j n => hX k θ' M' (e1.trans e) j n)
/-! ### argument lists, displays -/
def wNil {Θ : Type} : WA Θ := fun _ θ N _ => N [] θ
def wCons {Θ : Type} (wa : WE Θ) (wr : WA Θ) : WA Θ := fun ρ θ N Nx => wa ρ θ (fun x θ1 => wr ρ θ1 (fun xs θ2 => N (x :: xs) θ2) Nx) Nx
theorem paired_ext {C : EK → Addr} {M M' : Wd} (e : Ext M M') {vs : List V} {ds : List D} (h : Paired (Re C m M) vs ds) : Paired (Re C m M') vs ds := Paired.mapP h fun _ _ r => r.ext e
theorem ax_nil : AX X L Wx m [] wNil := ⟨_, pa_nil, fun H0 M σ ρ θ Q N Nx rep j hw hN hX => hN [] θ M [] (.refl rep.ok) j .nil hw⟩
theorem ax_cons {e : Expr} {es : List Expr} {wr : WA L.Θ} (ha : EX X L Wx m e wa) (hr : AX X L Wx m es wr) (hs : starEach (e :: es) X.env = (false, eval e X.env) :: starEach es X.env := by rfl) : AX X L Wx m (e :: es) (wCons wa wr) := by
  obtain ⟨t, a1, a2⟩ := ha
  obtain ⟨u, b1, b2⟩ := hr
  refine ⟨_, pa_cons a1 b1 hs, fun H0 M σ ρ θ Q N Nx rep j hw hN hX => ?_⟩
  refine a2 H0 M σ ρ θ _ _ Nx rep j hw (fun x θ1 M1 v1 e1 j1 r1 n1 => ?_) hX
  exact b2 H0 M1 σ ρ θ1 _ _ Nx (rep.ext e1) j1 n1 (fun ds θ' M' vs e j r n => hN (x :: ds) θ' M' (v1 :: vs) (e1.trans e) j (.cons (r1.ext e) r) n) (fun k θ' M' e j n => hX k θ' M' (e1.trans e) j n)
def pys : List D → Option (List PyData)
  | [] => some []
  | .py d :: r => (pys r).map (d :: ·)
  | _ :: _ => none
theorem pys_dr {C : EK → Addr} {M : Wd} : ∀ {xs : List D} {ds : List PyData} {vs : List V}, pys xs = some ds → Paired (Re C .s M) vs xs → DrAll M.G vs ds
  | [], _, _, h, .nil => by
    cases h
    exact .nil
  | .py d :: r, ds, _, h, .cons (a := v) h1 h2 => by
    have h' : (pys r).map (d :: ·) = some ds := h
    cases e : pys r with
    | none =>
      rw [e] at h'
      cases h'
    | some es =>
      rw [e] at h'
      have h'' : d :: es = ds := Option.some.inj h'
      subst h''
      exact .cons h1 (pys_dr e h2)
  | .ex _ :: _, _, _, h, _ => by cases h
  | .rf _ :: _, _, _, h, _ => by cases h
def wDisp {Θ : Type} (mk : List PyData → PyData) (wr : WA Θ) : WE Θ := fun ρ θ N Nx => wr ρ θ (fun xs θ1 => ∃ ds, pys xs = some ds ∧ ds.length ≤ sizeLine ∧ N (.py (mk ds)) θ1) Nx
theorem ex_tup {es : List Expr} {wr : WA L.Θ} {k : Nat} (h : AX X L Wx .s es wr) : EX X L Wx .s (.Tuple es k pos) (wDisp .tuple wr) := by
  obtain ⟨t, a1, a2⟩ := h
  refine ⟨_, pe_tup a1, fun H0 M σ ρ θ Q N Nx rep j hw hN hX => ?_⟩
  refine a2 H0 M σ ρ θ _ _ Nx rep j hw (fun xs θ1 M1 vs e1 j1 r1 n1 => ?_) hX
  obtain ⟨ds, hp, hl, n⟩ := n1
  have dr := pys_dr hp r1
  refine ⟨by rw [dr.len]; exact hl, fun p np => ?_⟩
  have e2 := Ext0.add e1.ok (o := .tup vs) np
  exact hN (.py (.tuple ds)) θ1 (M1.add p (.tup vs)) _ (e1.trans e2.1) (L.ext0 e2 j1) (Dr.tup add_at (dr.mono e2.1.g)) n
theorem ex_lst {es : List Expr} {wr : WA L.Θ} (h : AX X L Wx .s es wr) : EX X L Wx .s (.List es pos) (wDisp .list wr) := by
  obtain ⟨t, a1, a2⟩ := h
  refine ⟨_, pe_lst a1, fun H0 M σ ρ θ Q N Nx rep j hw hN hX => ?_⟩
  refine a2 H0 M σ ρ θ _ _ Nx rep j hw (fun xs θ1 M1 vs e1 j1 r1 n1 => ?_) hX
  obtain ⟨ds, hp, hl, n⟩ := n1
  have dr := pys_dr hp r1
  refine ⟨by rw [dr.len]; exact hl, fun p np => ?_⟩
  have e2 := Ext0.add e1.ok (o := .lst vs) np
  exact hN (.py (.list ds)) θ1 (M1.add p (.lst vs)) _ (e1.trans e2.1) (L.ext0 e2 j1) (Dr.lst add_at (dr.mono e2.1.g)) n
end
/-! ### calls of defs -/
abbrev Spec (Θ : Type) := List D → Θ → (D → Θ → Prop) → (EK → Θ → Prop) → Prop
abbrev Spec0 := List D → (D → Prop) → (EK → Prop) → Prop
def SpD (L : Vl) (spec : Spec L.Θ) : Sp := fun vs H Q E => ∃ (M : Wd) (θ : L.Θ) (ds : List D) (N : D → L.Θ → Prop) (Nx : EK → L.Θ → Prop), M.H = H ∧ M.Ok ∧ L.at θ M ∧ Paired (Re L.C .s M) vs ds ∧ spec ds θ N Nx ∧
  (∀ d θ' M' v, Ext M M' → L.at θ' M' → Rv L.C M'.G v d → N d θ' → Q v M'.H) ∧ ∀ k θ' M', Ext M M' → L.at θ' M' → Nx k θ' → E (.ref (L.C k)) none M'.H
def Spec0.up (s : Spec0) : Spec Unit := fun ds _ N Nx => s ds (fun d => N d ()) (fun k => Nx k ())
structure CalD (P : Program) (w : World) (K : PySem.W.Frag) (mg : Str → Option Value) (base : Heap) (k : Nat) (x : Str) (L : Vl) (spec : Spec L.Θ) : Prop where
  ex : ∃ (f : Addr) (fd : FuncData) (ps : List Str), FnOk P w K mg base (L2.CX P w) k f fd ps (SpD L spec) ∧ mg x = some (.ref f) ∧ PySem.W.keepIn K (.ref f) = true ∧ Binds K fd ps []
theorem CalD.mono {P : Program} {w : World} {K : PySem.W.Frag} {mg : Str → Option Value} {base : Heap} {j k : Nat} {x : Str} {spec : Spec L.Θ} (c : CalD P w K mg base j x L spec) (h : j ≤ k) : CalD P w K mg base k x L spec := by
  obtain ⟨f, fd, ps, F, a, b, e⟩ := c
  exact ⟨f, fd, ps, F.mono h, a, b, e⟩
section
variable {k : Nat} {x : Str} {p pos : Pos} {e : Expr} {es : List Expr} {wr : WA L.Θ}
theorem pe_callS0 {X : Cx} {CX : CXT} {f : Addr} {fd : FuncData} {ps : List Str} {sp : Sp} {E : L2.St → XK} (F : FnOk X.prog X.w X.K X.mg X.base CX k f fd ps sp) (hr : Room k X.A) (hg : Gl X x) (hm : X.mg x = some (.ref f)) (hk : PySem.W.keepIn X.K (.ref f) = true) (hb : Binds X.K fd ps []) (hx : ∀ σ, PassesAt CX X σ (E σ))
    (hdb : (x == ("__debug__" : Str)) = false := by decide) : PE X (.Call (.Name x p) [] [] pos) (tCallS sp E tNil) := by
  refine ⟨fun pins s σ H Q I h => ?_⟩
  refine wpAny_Call_Name_kw (ld_glob I hg hm ?_ hdb)
  exact PySem.W.callWith_K0 I.kIn hk (run_fnS (us := []) F hr hb (hx σ) I .nil h)
def wCall {Θ : Type} (spec : Spec Θ) (wr : WA Θ) : WE Θ := fun ρ θ N Nx => wr ρ θ (fun ds θ1 => spec ds θ1 N Nx) Nx
theorem rx_call {spec : Spec L.Θ} {t : TA} (h : RXa L Wx .s t wr) : RXe L Wx .s (tCallS (SpD L spec) (L2.WE Wx) t) (wCall spec wr) := by
  intro H0 M σ ρ θ Q N Nx rep j hw hN hX
  refine h H0 M σ ρ θ _ _ Nx rep j hw (fun ds θ1 M1 vs e1 j1 r1 n1 => ?_) hX
  exact ⟨M1, θ1, ds, N, Nx, rfl, e1.ok, j1, r1, n1, fun d θ' M' v e j r n => hN d θ' M' v (e1.trans e) j r n, fun k θ' M' e j n => hX k θ' M' (e1.trans e) j n⟩
theorem ex_call {spec : Spec L.Θ} (tk : Takes X Wx) (c : CalD X.prog X.w X.K X.mg X.base k x L spec) (hr : Room k X.A) (hg : Gl X x) (ha : AX X L Wx .s (e :: es) wr) (hdb : (x == ("__debug__" : Str)) = false := by decide) (he : starEach (e :: es) X.env = (false, eval e X.env) :: starEach es X.env := by rfl) (hpl : (backTo pos (starEach es X.env)).any (·.1) = false := by rfl) :
    EX X L Wx .s (.Call (.Name x p) (e :: es) [] pos) (wCall spec wr) := by
  obtain ⟨f, fd, ps, F, hm, hk, hb⟩ := c
  obtain ⟨t, a1, a2⟩ := ha
  exact ⟨_, pe_callS F hr hg hm hk hb (fun σ => passAt tk σ) a1 hdb he hpl, rx_call a2⟩
theorem ex_callN {spec : Spec L.Θ} (tk : Takes X Wx) (c : CalD X.prog X.w X.K X.mg X.base k x L spec) (hr : Room k X.A) (hg : Gl X x) (hdb : (x == ("__debug__" : Str)) = false := by decide) :
    EX X L Wx .s (.Call (.Name x p) [] [] pos) (wCall spec wNil) := by
  obtain ⟨f, fd, ps, F, hm, hk, hb⟩ := c
  exact ⟨_, pe_callS0 F hr hg hm hk hb (fun σ => passAt tk σ) hdb, rx_call fun H0 M σ ρ θ Q N Nx rep j hw hN hX => hN [] θ M [] (.refl rep.ok) j .nil hw⟩
/-- a def that keeps nothing beside, called where something is kept -/
def wCall0 {Θ : Type} (spec : Spec0) (wr : WA Θ) : WE Θ := fun ρ θ N Nx => wr ρ θ (fun ds θ1 => spec ds (fun d => N d θ1) (fun k => Nx k θ1)) Nx
theorem ext_up {M1 M' : Wd} (ok : M1.Ok) (e : Ext ⟨M1.G, fun _ => none, M1.H⟩ M') : Ext M1 ⟨M'.G, M1.Z, M'.H⟩ := by
  refine ⟨⟨e.ok.g, fun b o h => (e.k b o (ok.z _ _ h) rfl).1, fun b o h => ?_⟩, e.g, e.t, fun b o h z => ?_⟩
  · cases q : M1.Z b with
    | none => rfl
    | some u =>
      have g := (e.k b u (ok.z _ _ q) rfl).2.1
      have h' : M'.G b = some o := h
      have g' : M'.G b = M1.G b := g
      rw [g'] at h'
      rw [ok.d _ _ h'] at q
      cases q
  · obtain ⟨h1, h2, _⟩ := e.k b o h rfl
    exact ⟨h1, h2, z⟩
theorem rx_call0 {spec : Spec0} {t : TA} (h : RXa L Wx .s t wr) : RXe L Wx .s (tCallS (SpD (V0 L.C) spec.up) (L2.WE Wx) t) (wCall0 spec wr) := by
  intro H0 M σ ρ θ Q N Nx rep j hw hN hX
  refine h H0 M σ ρ θ _ _ Nx rep j hw (fun ds θ1 M1 vs e1 j1 r1 n1 => ?_) hX
  refine ⟨⟨M1.G, fun _ => none, M1.H⟩, (), ds, fun d _ => N d θ1, fun k _ => Nx k θ1, rfl, ⟨e1.ok.g, fun b o h => (by cases h), fun _ _ _ => rfl⟩, fun _ => rfl, r1, n1, fun d _ M' v e _ r n => ?_, fun k _ M' e _ n => ?_⟩
  · have e2 := ext_up e1.ok e
    exact hN d θ1 ⟨M'.G, M1.Z, M'.H⟩ v (e1.trans e2) (L.mono e2.g j1) r n
  · have e2 := ext_up e1.ok e
    exact hX k θ1 ⟨M'.G, M1.Z, M'.H⟩ (e1.trans e2) (L.mono e2.g j1) n
theorem ex_call0 {spec : Spec0} (tk : Takes X Wx) (c : CalD X.prog X.w X.K X.mg X.base k x (V0 L.C) spec.up) (hr : Room k X.A) (hg : Gl X x) (ha : AX X L Wx .s (e :: es) wr) (hdb : (x == ("__debug__" : Str)) = false := by decide) (he : starEach (e :: es) X.env = (false, eval e X.env) :: starEach es X.env := by rfl) (hpl : (backTo pos (starEach es X.env)).any (·.1) = false := by rfl) :
    EX X L Wx .s (.Call (.Name x p) (e :: es) [] pos) (wCall0 spec wr) := by
  obtain ⟨f, fd, ps, F, hm, hk, hb⟩ := c
  obtain ⟨t, a1, a2⟩ := ha
  exact ⟨_, pe_callS F hr hg hm hk hb (fun σ => passAt tk σ) a1 hdb he hpl, rx_call0 a2⟩
theorem ex_callN0 {spec : Spec0} (tk : Takes X Wx) (c : CalD X.prog X.w X.K X.mg X.base k x (V0 L.C) spec.up) (hr : Room k X.A) (hg : Gl X x) (hdb : (x == ("__debug__" : Str)) = false := by decide) :
    EX X L Wx .s (.Call (.Name x p) [] [] pos) (wCall0 spec wNil) := by
  obtain ⟨f, fd, ps, F, hm, hk, hb⟩ := c
  exact ⟨_, pe_callS0 F hr hg hm hk hb (fun σ => passAt tk σ) hdb, rx_call0 fun H0 M σ ρ θ Q N Nx rep j hw hN hX => hN [] θ M [] (.refl rep.ok) j .nil hw⟩
end
end RT
end
section
set_option Elab.async false
set_option linter.all false
set_option maxRecDepth 100000
set_option maxHeartbeats 2000000
namespace RT
open PySem PySem.Spec PyProof.Rows L2
/-! ### statements -/
structure EN (Θ : Type) where
  nx : DS → Θ → Prop
  rt : D → Θ → Prop
  bk : DS → Θ → Prop := fun _ _ => False
  ct : DS → Θ → Prop := fun _ _ => False
  ex : EK → Θ → Prop := fun _ _ => False
abbrev WS (Θ : Type) := EN Θ → DS → Θ → Prop
structure Fits (L : Vl) (Wx : WX) (M0 : Wd) (G : Hp) (E : Ends) (N : EN L.Θ) : Prop where
  nx : ∀ M σ ρ θ, Ext M0 M → Same G M.G → Rep L.C M0.H M σ ρ → L.at θ M → N.nx ρ θ → E.nx σ M.H
  rt : ∀ M v d θ, Ext M0 M → L.at θ M → Rv L.C M.G v d → N.rt d θ → E.rt v M.H
  bk : ∀ M σ ρ θ, Ext M0 M → Same G M.G → Rep L.C M0.H M σ ρ → L.at θ M → N.bk ρ θ → E.bk σ M.H
  ct : ∀ M σ ρ θ, Ext M0 M → Same G M.G → Rep L.C M0.H M σ ρ → L.at θ M → N.ct ρ θ → E.ct σ M.H
  ex : ∀ M σ k θ, Ext M0 M → L.at θ M → N.ex k θ → Wx (.ref (L.C k)) none σ M.H
theorem Fits.up {L : Vl} {Wx : WX} {M0 : Wd} {G G' : Hp} {E : Ends} {N : EN L.Θ} (f : Fits L Wx M0 G E N) (s : Same G G') : Fits L Wx M0 G' E N :=
  ⟨fun M σ ρ θ e g => f.nx M σ ρ θ e (s.trans g), f.rt, fun M σ ρ θ e g => f.bk M σ ρ θ e (s.trans g), fun M σ ρ θ e g => f.ct M σ ρ θ e (s.trans g), f.ex⟩
def RXs (L : Vl) (Wx : WX) (t : TS) (w : WS L.Θ) : Prop := ∀ (M0 M : Wd) (σ : L2.St) (ρ : DS) (θ : L.Θ) (E : Ends) (N : EN L.Θ), Ext M0 M → Rep L.C M0.H M σ ρ → L.at θ M → w N ρ θ → Fits L Wx M0 M.G E N → t E σ M.H
structure SX (X : Cx) (L : Vl) (Wx : WX) (st : Stmt) (w : WS L.Θ) : Prop where
  ex : ∃ t, PS X st t ∧ RXs L Wx t w
structure SXs (X : Cx) (L : Vl) (Wx : WX) (st : List Stmt) (w : WS L.Θ) : Prop where
  ex : ∃ t, PSs X st t ∧ RXs L Wx t w
variable {X : Cx} {L : Vl} {Wx : WX} {st : Stmt} {rest : List Stmt} {w u : WS L.Θ} {e : Expr} {we : WE L.Θ} {m : Md} {pos : Pos}
/-! ### blocks -/
def wNext {Θ : Type} : WS Θ := fun N ρ θ => N.nx ρ θ
def wSeq {Θ : Type} (w u : WS Θ) : WS Θ := fun N ρ θ => w { N with nx := fun ρ' θ' => u N ρ' θ' } ρ θ
theorem sxs_nil : SXs X L Wx [] wNext := ⟨_, pss_nil, fun M0 M σ ρ θ E N e rep j hw f => f.nx M σ ρ θ e (Same.refl _) rep j hw⟩
theorem sxs_cons (h1 : SX X L Wx st w) (h2 : SXs X L Wx rest u) : SXs X L Wx (st :: rest) (wSeq w u) := by
  obtain ⟨t, a1, a2⟩ := h1
  obtain ⟨s, b1, b2⟩ := h2
  refine ⟨_, pss_cons a1 b1, fun M0 M σ ρ θ E N e rep j hw f => ?_⟩
  exact a2 M0 M σ ρ θ { E with nx := s E } { N with nx := fun ρ' θ' => u N ρ' θ' } e rep j hw ⟨fun M' σ' ρ' θ' e' g' rep' j' n' => b2 M0 M' σ' ρ' θ' E N e' rep' j' n' (f.up g'), f.rt, f.bk, f.ct, f.ex⟩
theorem sxs_one (h1 : SX X L Wx st w) : SXs X L Wx [st] w := by
  obtain ⟨t, a1, a2⟩ := h1
  exact ⟨_, pss_one a1, a2⟩
def wNever {Θ : Type} : WS Θ := fun _ _ _ => False
theorem sxs_never {sts : List Stmt} : SXs X L Wx sts wNever := ⟨_, pss_never, fun _ _ _ _ _ _ _ _ _ _ h _ => h.elim⟩
theorem sx_never : SX X L Wx st wNever := ⟨_, ps_never, fun _ _ _ _ _ _ _ _ _ _ h _ => h.elim⟩
theorem sx_pass : SX X L Wx (.Pass pos) wNext := ⟨_, ps_pass, fun M0 M σ ρ θ E N e rep j hw f => f.nx M σ ρ θ e (Same.refl _) rep j hw⟩
/-! ### stores -/
def wSet {Θ : Type} (i : Nat) (we : WE Θ) : WS Θ := fun N ρ θ => we ρ θ (fun d θ' => N.nx (ρ.set i (.is d)) θ') N.ex
theorem rs_set {i : Nat} {te : TE} (h : RXe L Wx .s te we) : RXs L Wx (tAsg te (gName i)) (wSet i we) := by
  intro M0 M σ ρ θ E N e rep j hw f
  exact h M0.H M σ ρ θ _ _ N.ex rep j hw (fun d θ' M' v e' j' r n => f.nx M' _ _ θ' (e.trans e') e'.g ((rep.ext e').set i r) j' n) (fun k θ' M' e' j' n => f.ex M' σ k θ' (e.trans e') j' n)
theorem sx_set (i : Nat) {x : Str} {pos' : Pos} (hN : X.N.Nodup) (he : EX X L Wx .s e we) (hi : X.N[i]? = some x := by rfl) (hx : Loc X.env.scope x := by first | exact Or.inl rfl | exact Or.inr rfl) (hs : swapsWith e (some (.Name x pos')) pos.line X.env = pure false := by rfl)
    (hf : X.fn x = true ∨ X.env.scope.names.lookup x = some .local := by first | exact .inl rfl | exact .inr rfl | assumption) : SX X L Wx (.Assign [.Name x pos'] e pos) (wSet i we) := by
  obtain ⟨t, a1, a2⟩ := he
  exact ⟨_, ps_set hN hi hx a1 hs hf, rs_set a2⟩
theorem ext_put {M0 M : Wd} (e : Ext M0 M) {p : Addr} {o : HO} (g : M.G p = none) (z : M.Z p = none) (h0 : M0.H p = none) : Ext M0 (M.put p o) := by
  refine ⟨put_ok e.ok g z, e.g, fun b h => ?_, fun b x h hz => ?_⟩
  · by_cases hb : b = p
    · rw [hb]
      exact h0
    · have h' : upd M.H p o b = none := h
      rw [upd_ne hb] at h'
      exact e.t _ h'
  · obtain ⟨k1, k2, k3⟩ := e.k b x h hz
    refine ⟨?_, k2, k3⟩
    show upd M.H p o b = some x
    rw [upd_ne (ne_of_none h h0)]
    exact k1
def wNew {Θ : Type} (i : Nat) : WS Θ := fun N ρ θ => N.nx (ρ.set i (.own [])) θ
theorem sx_new (i : Nat) {x : Str} {pos' pos2 : Pos} (hN : X.N.Nodup) (hi : X.N[i]? = some x := by rfl) (hx : Loc X.env.scope x := by first | exact Or.inl rfl | exact Or.inr rfl) (hs : swapsWith (.List [] pos2) (some (.Name x pos')) pos.line X.env = pure false := by rfl)
    (hf : X.fn x = true ∨ X.env.scope.names.lookup x = some .local := by first | exact .inl rfl | exact .inr rfl | assumption) : SX X L Wx (.Assign [.Name x pos'] (.List [] pos2) pos) (wNew i) := by
  refine ⟨_, ps_set hN hi hx (pe_lst pa_nil) hs hf, fun M0 M σ ρ θ E N e rep j hw f => ?_⟩
  refine ⟨Nat.zero_le _, fun p np => ?_⟩
  exact f.nx (M.put p (.lst [])) _ _ θ (ext_put e (rep.ok.free np).1 (rep.ok.free np).2 (e.t p np)) (Same.refl _) (rep.newOwn i np (e.t p np) .nil) j hw
/-- a value at the slot i, the one list of it written -/
theorem ps_aug' {i : Nat} {x : Str} {e : Expr} {te : TE} {op : Operator} {r : R2} {pos pos' : Pos} (hN : X.N.Nodup) (hi : X.N[i]? = some x) (hx : Loc X.env.scope x) (he : PE X e te) (ho : OpR X (inplaceOp op) r) (hf : X.fn x = true ∨ X.env.scope.names.lookup x = some .local) :
    PS X (.AugAssign (.Name x pos') op e pos) (tAug i te r) := ps_aug hN hi hx he ho hf
def wAug {Θ : Type} (i : Nat) (f : F2) (okc : D → D → Prop) (we : WE Θ) : WS Θ := fun N ρ θ => ∃ x, ρ[i]? = some (.is x) ∧ we ρ θ (fun y θ' => ∃ d, f x y = some d ∧ okc x y ∧ N.nx (ρ.set i (.is d)) θ') N.ex
theorem sx_aug (i : Nat) {x : Str} {op : Operator} {f : F2} {okc : D → D → Prop} {pos' : Pos} (hN : X.N.Nodup) (o : OpD X L.C (inplaceOp op) f okc) (he : EX X L Wx m e we) (hi : X.N[i]? = some x := by rfl) (hx : Loc X.env.scope x := by first | exact Or.inl rfl | exact Or.inr rfl)
    (hf : X.fn x = true ∨ X.env.scope.names.lookup x = some .local := by first | exact .inl rfl | exact .inr rfl | assumption) : SX X L Wx (.AugAssign (.Name x pos') op e pos) (wAug i f okc we) := by
  obtain ⟨r, o1, o2⟩ := o
  obtain ⟨t, a1, a2⟩ := he
  refine ⟨_, ps_aug' hN hi hx a1 o1 hf, fun M0 M σ ρ θ E N e rep j hw f => ?_⟩
  obtain ⟨d0, h0, hw⟩ := hw
  obtain ⟨v0, s0, r0⟩ := rep.get h0
  refine ⟨v0, s0, ?_⟩
  refine a2 M0.H M σ ρ θ _ _ N.ex rep j hw (fun y θ1 M1 v1 e1 j1 r1 n1 => ?_) (fun k θ' M' e' j' n => f.ex M' σ k θ' (e.trans e') j' n)
  obtain ⟨d, hf, hok, n⟩ := n1
  refine o2 M1 v0 v1 d0 y d _ e1.ok (.inl (r0.mono e1.g)) r1.r hf hok fun M' v e' r => ?_
  have e2 := e1.trans e'.1
  exact f.nx M' _ _ θ1 (e.trans e2) e2.g ((rep.ext e2).set i r) (L.ext0 e' j1) n
/-! ### own lists -/
theorem set_self {σ : L2.St} {i : Nat} {x : Option V} (h : σ[i]? = some x) : σ.set i x = σ := by
  apply List.ext_getElem?
  intro j
  by_cases e : i = j
  · subst e
    rw [List.getElem?_set_self (lt_of_get h)]
    exact h.symm
  · rw [List.getElem?_set_ne e]
/-- the own list at slot i, written by what follows -/
theorem own_write {M0 M : Wd} {σ : L2.St} {ρ : DS} {θ : L.Θ} {E : Ends} {N : EN L.Θ} {i : Nat} {ds es : List PyData} {a : Addr} {ys : List V} (e : Ext M0 M) (rep : Rep L.C M0.H M σ ρ) (j : L.at θ M) (h : ρ[i]? = some (.own ds)) (ha : σ[i]? = some (some (.ref a)))
    (hy : DrAll M.G ys es) (n : N.nx (ρ.set i (.own es)) θ) {G : Hp} (g : Same G M.G) (f : Fits L Wx M0 G E N) : E.nx σ (upd M.H a (.lst ys)) := by
  obtain ⟨a', xs, s', g1, z1, h0, hx, r⟩ := rep.getOwn h
  have ea : a' = a := by
    have q := s'.symm.trans ha
    injection q with q
    injection q with q
    injection q
  subst ea
  exact f.nx (M.put a' (.lst ys)) σ _ θ (ext_put e g1 z1 h0) g (rep.put h ha g1 z1 hy) j n
/-- x += a list -/
def wExtend {Θ : Type} (i : Nat) (we : WE Θ) : WS Θ := fun N ρ θ => ∃ ds, ρ[i]? = some (.own ds) ∧ we ρ θ (fun y θ' => ∃ es, y = .py (.list es) ∧ ds.length + es.length ≤ sizeLine ∧ N.nx (ρ.set i (.own (ds ++ es))) θ') N.ex
theorem sx_extend (i : Nat) {x : Str} {pos' : Pos} (hN : X.N.Nodup) (he : EX X L Wx m e we) (hi : X.N[i]? = some x := by rfl) (hx : Loc X.env.scope x := by first | exact Or.inl rfl | exact Or.inr rfl)
    (hf : X.fn x = true ∨ X.env.scope.names.lookup x = some .local := by first | exact .inl rfl | exact .inr rfl | assumption) : SX X L Wx (.AugAssign (.Name x pos') .Add e pos) (wExtend i we) := by
  obtain ⟨t, a1, a2⟩ := he
  refine ⟨_, ps_aug' hN hi hx a1 iop_ext hf, fun M0 M σ ρ θ E N e rep j hw f => ?_⟩
  obtain ⟨ds, h, hw⟩ := hw
  obtain ⟨a, xs, s0, _⟩ := rep.getOwn h
  refine ⟨_, s0, ?_⟩
  refine a2 M0.H M σ ρ θ _ _ N.ex rep j hw (fun y θ1 M1 v1 e1 j1 r1 n1 => ?_) (fun k θ' M' e' j' n => f.ex M' σ k θ' (e.trans e') j' n)
  obtain ⟨es, rfl, hl, n⟩ := n1
  obtain ⟨b, zs, rfl, hb, rz⟩ := Re.list e1.ok r1.r
  have rep1 := rep.ext e1
  obtain ⟨a', xs', s', g1, z1, h0, hx', rx⟩ := rep1.getOwn h
  have ea : a' = a := by
    have q := s'.symm.trans s0
    injection q with q
    injection q with q
    injection q
  subst ea
  refine ⟨a', b, xs', zs, rfl, rfl, hx', hb, by rw [rx.len, rz.len]; exact hl, ?_⟩
  show E.nx (σ.set i (some (.ref a'))) _
  rw [set_self s0]
  exact own_write (e.trans e1) rep1 j1 h s0 (rx.append rz) n e1.g f
/-- x.append(e) -/
def wAppend {Θ : Type} (i : Nat) (we : WE Θ) : WS Θ := fun N ρ θ => ∃ ds, ρ[i]? = some (.own ds) ∧ we ρ θ (fun y θ' => ∃ d, y = .py d ∧ ds.length < sizeLine ∧ N.nx (ρ.set i (.own (ds ++ [d]))) θ') N.ex
theorem sx_append (i : Nat) {x : Str} {p1 p2 p3 : Pos} (he : EX X L Wx .s e we) (hN : X.N[i]? = some x := by rfl) (hv : Vis X.env.scope x := by first | exact Or.inl rfl | exact Or.inr (Or.inl rfl) | exact Or.inr (Or.inr rfl)) (hd : (x == ("__debug__" : Str)) = false := by decide)
    (hcd : (x == ("__classdict__" : Str)) = false := by decide) (hbase : attributeBase (.Name x p1) "append" X.env (eval (.Name x p1) X.env) = eval (.Name x p1) X.env := by rfl)
    (hfew : ((backTo p3 (starEach [e] X.env)).all (fun x => !x.1) && (backToKw p3 (keywordEach [] X.env)).all (fun x => x.1.isSome) && decide ([e].length + ([] : List Keyword).length + (if ([] : List Keyword).isEmpty then 0 else 1) < 30)) = true := by rfl)
    (hline : (p2.endLine == p3.line) = true := by rfl) (hs : starEach [e] X.env = (false, eval e X.env) :: starEach [] X.env := by rfl) (hplain : (backTo p3 (starEach [] X.env)).any (·.1) = false := by rfl)
    (hsw : swapsWith (.Call (.Attribute (.Name x p1) "append" p2) [e] [] p3) none pos.line X.env = pure false := by rfl) :
    SX X L Wx (.Expr (.Call (.Attribute (.Name x p1) "append" p2) [e] [] p3) pos) (wAppend i we) := by
  obtain ⟨t, a1, a2⟩ := he
  refine ⟨_, ps_expr (pe_bm PySem.F.plainAttrs_list PySem.F.slot_list_append PySem.F.type_list_append mt_append (pe_var hN hv hd hcd) (pa_cons a1 pa_nil hs) hbase hfew hline hs hplain) hsw, fun M0 M σ ρ θ E N e rep j hw f => ?_⟩
  obtain ⟨ds, h, hw⟩ := hw
  obtain ⟨a, xs, s0, g0, z0, h0, hx0, _⟩ := rep.getOwn h
  refine ⟨_, s0, .inl ⟨rfl, xs, .of hx0⟩, ?_⟩
  refine a2 M0.H M σ ρ θ _ _ N.ex rep j hw (fun y θ1 M1 v1 e1 j1 r1 n1 => ?_) (fun k θ' M' e' j' n => f.ex M' σ k θ' (e.trans e') j' n)
  obtain ⟨d, rfl, hl, n⟩ := n1
  have rep1 := rep.ext e1
  obtain ⟨a', xs', s', g1, z1, h1, hx', rx⟩ := rep1.getOwn h
  have ea : a' = a := by
    have q := s'.symm.trans s0
    injection q with q
    injection q with q
    injection q
  subst ea
  refine ⟨a', xs', v1, rfl, rfl, hx', by rw [rx.len]; exact hl, ?_⟩
  exact own_write (e.trans e1) rep1 j1 h s0 (rx.append (.one (show Dr M1.G v1 d from r1))) n e1.g f
/-- x[k] = e, x an own list, k an int -/
def wPut {Θ : Type} (i : Nat) (we wk : WE Θ) : WS Θ := fun N ρ θ => we ρ θ (fun y θ1 => ∃ d ds, y = .py d ∧ ρ[i]? = some (.own ds) ∧ wk ρ θ1 (fun z θ2 => ∃ k n, z = .py (.int k) ∧ ixN ds.length k = some n ∧ N.nx (ρ.set i (.own (ds.set n d))) θ2) N.ex) N.ex
theorem sx_put (i : Nat) {x : Str} {p1 p2 : Pos} {ix : Expr} {wk : WE L.Θ} (he : EX X L Wx .s e we) (hk : EX X L Wx .s ix wk) (hN : X.N[i]? = some x := by rfl) (hv : Vis X.env.scope x := by first | exact Or.inl rfl | exact Or.inr (Or.inl rfl) | exact Or.inr (Or.inr rfl)) (hd : (x == ("__debug__" : Str)) = false := by decide)
    (hcd : (x == ("__classdict__" : Str)) = false := by decide)
    (ha : ∀ v, assign (.Subscript (.Name x p1) ix p2) X.env v = (do
      let ov ← holding [v] (eval (.Name x p1) X.env)
      let iv ← holding [v, ov] (eval ix X.env)
      standAt p2
      holding [v, ov, iv] (setItem ov iv v)
      release [v, ov, iv] []) := by intro _; rfl)
    (hs : swapsWithSole [.Subscript (.Name x p1) ix p2] e pos.line X.env = pure false := by rfl) (hw : swappedStores [.Subscript (.Name x p1) ix p2] e X.env = pure none := by rfl)
    (h1 : (assignEach [.Subscript (.Name x p1) ix p2] X.env).map (·.2) = [assign (.Subscript (.Name x p1) ix p2) X.env] := by rfl) :
    SX X L Wx (.Assign [.Subscript (.Name x p1) ix p2] e pos) (wPut i we wk) := by
  obtain ⟨t, a1, a2⟩ := he
  obtain ⟨s, b1, b2⟩ := hk
  refine ⟨_, ps_asg a1 (pg_sub (pe_var hN hv hd hcd) b1 set_list ha) hs hw h1, fun M0 M σ ρ θ E N e rep j hw f => ?_⟩
  refine a2 M0.H M σ ρ θ _ _ N.ex rep j hw (fun y θ1 M1 v1 e1 j1 r1 n1 => ?_) (fun k θ' M' e' j' n => f.ex M' σ k θ' (e.trans e') j' n)
  obtain ⟨d, ds, rfl, h, n1⟩ := n1
  have rep1 := rep.ext e1
  obtain ⟨a, xs, s0, g0, z0, h0, hx0, _⟩ := rep1.getOwn h
  refine ⟨_, s0, ?_⟩
  refine b2 M0.H M1 σ ρ θ1 _ _ N.ex rep1 j1 n1 (fun y θ2 M2 v2 e2 j2 r2 n2 => ?_) (fun k θ' M' e' j' n => f.ex M' σ k θ' (e.trans (e1.trans e')) j' n)
  obtain ⟨k, n, rfl, hk, nn⟩ := n2
  have rep2 := rep1.ext e2
  obtain ⟨a', xs', s', g1, z1, h1, hx', rx⟩ := rep2.getOwn h
  have ea : a' = a := by
    have q := s'.symm.trans s0
    injection q with q
    injection q with q
    injection q
  subst ea
  cases (show Dr M2.G v2 (.int k) from r2)
  refine ⟨a', xs', k, n, rfl, rfl, hx', by rw [rx.len]; exact hk, ?_⟩
  exact own_write (e.trans (e1.trans e2)) rep2 j2 h s0 (DrAll.set n (Dr.mono e2.g r1) rx) nn (e1.g.trans e2.g) f
/-- the own list of slot i is not written any more -/
def wFrz {Θ : Type} (i : Nat) (w : WS Θ) : WS Θ := fun N ρ θ => ∃ ds, ρ[i]? = some (.own ds) ∧ w N (ρ.set i (.is (.py (.list ds)))) θ
def Wd.frz (M : Wd) (a : Addr) (o : HO) : Wd := ⟨upd M.G a o, M.Z, M.H⟩
theorem ext_frz {M0 M : Wd} (e : Ext M0 M) {a : Addr} {o : HO} (h : M.H a = some o) (g : M.G a = none) (z : M.Z a = none) (h0 : M0.H a = none) : Ext M0 (M.frz a o) ∧ Same M.G (M.frz a o).G := by
  have sg : Same M.G (upd M.G a o) := upd_same_of g
  refine ⟨⟨⟨fun b x q => ?_, e.ok.z, fun b x q => ?_⟩, e.g.trans sg, e.t, fun b x q zz => ?_⟩, sg⟩
  · by_cases hb : b = a
    · subst hb
      have q' : upd M.G b o b = some x := q
      rw [upd_same] at q'
      rw [← q']
      exact h
    · have q' : upd M.G a o b = some x := q
      rw [upd_ne hb] at q'
      exact e.ok.g _ _ q'
  · by_cases hb : b = a
    · rw [hb]
      exact z
    · have q' : upd M.G a o b = some x := q
      rw [upd_ne hb] at q'
      exact e.ok.d _ _ q'
  · obtain ⟨k1, k2, k3⟩ := e.k b x q zz
    refine ⟨k1, ?_, k3⟩
    show upd M.G a o b = _
    rw [upd_ne (ne_of_none q h0)]
    exact k2
theorem rep_frz {C : EK → Addr} {H0 : Hp} {M : Wd} {σ : L2.St} {ρ : DS} (r : Rep C H0 M σ ρ) {i : Nat} {ds : List PyData} (h : ρ[i]? = some (.own ds)) {a : Addr} {xs : List V} (s0 : σ[i]? = some (some (.ref a))) (hx : M.H a = some (.lst xs)) (g : M.G a = none) (rx : DrAll M.G xs ds) (ok : (M.frz a (.lst xs)).Ok) :
    Rep C H0 (M.frz a (.lst xs)) σ (ρ.set i (.is (.py (.list ds)))) := by
  have sg : Same M.G (upd M.G a (.lst xs)) := upd_same_of g
  obtain ⟨am, h1, h2⟩ := r.sl
  have hi := h2 i _ h
  have ea : am i = a := by
    have q := hi.1.symm.trans s0
    injection q with q
    injection q with q
    injection q
  refine ⟨ok, by rw [List.length_set]; exact r.len, am, fun j k d1 d2 hj hk e => ?_, fun j x hj => ?_⟩
  · rcases get_set hj with ⟨_, q⟩ | ⟨_, q1⟩
    · cases q
    · rcases get_set hk with ⟨_, q⟩ | ⟨_, q2⟩
      · cases q
      · exact h1 j k _ _ q1 q2 e
  · rcases get_set hj with ⟨rfl, q⟩ | ⟨ne, q⟩
    · subst q
      exact ⟨.ref a, s0, Dr.lst upd_same (rx.mono sg)⟩
    · have s := h2 j x q
      cases x with
      | no => trivial
      | is d =>
        obtain ⟨v, e1, e2⟩ := s
        exact ⟨v, e1, e2.mono sg⟩
      | own d2 =>
        obtain ⟨e1, e2, e3, e4, ys, hy, r'⟩ := s
        refine ⟨e1, ?_, e3, e4, ys, hy, r'.mono sg⟩
        show upd M.G a (.lst xs) (am j) = none
        rw [upd_ne ?_]
        · exact e2
        · intro q'
          exact ne (h1 i j _ _ h q (ea.trans q'.symm))
theorem sxs_frz (i : Nat) {sts : List Stmt} (h : SXs X L Wx sts w) : SXs X L Wx sts (wFrz i w) := by
  obtain ⟨t, a1, a2⟩ := h
  refine ⟨t, a1, fun M0 M σ ρ θ E N e rep j hw f => ?_⟩
  obtain ⟨ds, h, hw⟩ := hw
  obtain ⟨a, xs, s0, g0, z0, h0, hx0, rx⟩ := rep.getOwn h
  obtain ⟨e', sg⟩ := ext_frz e hx0 g0 z0 h0
  exact a2 M0 (M.frz a (.lst xs)) σ _ θ E N e' (rep_frz rep h s0 hx0 g0 rx e'.ok) (L.mono sg j) hw (f.up sg)
/-! ### return, expressions, if -/
def wRet {Θ : Type} (we : WE Θ) : WS Θ := fun N ρ θ => we ρ θ N.rt N.ex
theorem sx_ret (he : EX X L Wx .s e we) : SX X L Wx (.Return (some e) pos) (wRet we) := by
  obtain ⟨t, a1, a2⟩ := he
  exact ⟨_, ps_ret a1, fun M0 M σ ρ θ E N e rep j hw f => a2 M0.H M σ ρ θ _ _ N.ex rep j hw (fun d θ' M' v e' j' r n => f.rt M' v d θ' (e.trans e') j' r n) (fun k θ' M' e' j' n => f.ex M' σ k θ' (e.trans e') j' n)⟩
def wRetOwn {Θ : Type} (i : Nat) : WS Θ := fun N ρ θ => ∃ ds, ρ[i]? = some (.own ds) ∧ N.rt (.py (.list ds)) θ
theorem sx_retOwn (i : Nat) {x : Str} {p1 : Pos} (hN : X.N[i]? = some x := by rfl) (hv : Vis X.env.scope x := by first | exact Or.inl rfl | exact Or.inr (Or.inl rfl) | exact Or.inr (Or.inr rfl)) (hd : (x == ("__debug__" : Str)) = false := by decide)
    (hcd : (x == ("__classdict__" : Str)) = false := by decide) : SX X L Wx (.Return (some (.Name x p1)) pos) (wRetOwn i) := by
  refine ⟨_, ps_ret (pe_var hN hv hd hcd), fun M0 M σ ρ θ E N e rep j hw f => ?_⟩
  obtain ⟨ds, h, n⟩ := hw
  obtain ⟨a, xs, s0, g0, z0, h0, hx0, rx⟩ := rep.getOwn h
  obtain ⟨e', sg⟩ := ext_frz e hx0 g0 z0 h0
  exact ⟨_, s0, f.rt (M.frz a (.lst xs)) _ (.py (.list ds)) θ e' (L.mono sg j) (Dr.lst upd_same (rx.mono sg)) n⟩
def wRetN {Θ : Type} : WS Θ := fun N _ θ => N.rt (.py .none) θ
theorem sx_retN : SX X L Wx (.Return none pos) wRetN := ⟨_, ps_retN, fun M0 M σ ρ θ E N e rep j hw f => f.rt M .non (.py .none) θ e j Dr.non hw⟩
def wDrop {Θ : Type} (we : WE Θ) : WS Θ := fun N ρ θ => we ρ θ (fun _ θ' => N.nx ρ θ') N.ex
theorem sx_expr (he : EX X L Wx m e we) (hs : swapsWith e none pos.line X.env = pure false := by rfl) : SX X L Wx (.Expr e pos) (wDrop we) := by
  obtain ⟨t, a1, a2⟩ := he
  exact ⟨_, ps_expr a1 hs, fun M0 M σ ρ θ E N e rep j hw f => a2 M0.H M σ ρ θ _ _ N.ex rep j hw (fun d θ' M' v e' j' r n => f.nx M' σ ρ θ' (e.trans e') e'.g (rep.ext e') j' n) (fun k θ' M' e' j' n => f.ex M' σ k θ' (e.trans e') j' n)⟩
def wIfS {Θ : Type} (c : WT Θ) (w u : WS Θ) : WS Θ := fun N ρ θ => c ρ θ (fun b θ' => if b = true then w N ρ θ' else u N ρ θ') N.ex
theorem sx_if {c : Expr} {tc : WT L.Θ} {a b : List Stmt} (hc : TX X L Wx c tc) (ha : SXs X L Wx a w) (hb : SXs X L Wx b u) : SX X L Wx (.If c a b pos) (wIfS tc w u) := by
  obtain ⟨t, c1, c2⟩ := hc
  obtain ⟨ta, a1, a2⟩ := ha
  obtain ⟨tb, b1, b2⟩ := hb
  refine ⟨_, ps_if c1 a1 b1, fun M0 M σ ρ θ E N e rep j hw f => ?_⟩
  refine c2 M0.H M σ ρ θ _ _ N.ex rep j hw (fun k θ' M' e' j' n => ?_) (fun k θ' M' e' j' n => f.ex M' σ k θ' (e.trans e') j' n)
  cases k with
  | true => exact a2 M0 M' σ ρ θ' E N (e.trans e') (rep.ext e') j' n (f.up e'.g)
  | false => exact b2 M0 M' σ ρ θ' E N (e.trans e') (rep.ext e') j' n (f.up e'.g)
/-! ### targets -/
def wipeD (ρ : DS) : List Nat → DS
  | [] => ρ
  | v :: vs => (wipeD ρ vs).set v .no
def Upto (is : List Nat) (σ σ' : L2.St) : Prop := σ'.length = σ.length ∧ ∀ j, j ∉ is → σ'[j]? = σ[j]?
theorem wipe_get {σ : L2.St} : ∀ {vs : List Nat} (j : Nat), (wipe σ vs)[j]? = if j ∈ vs then (if j < σ.length then some none else none) else σ[j]?
  | [], j => by simp [wipe]
  | v :: vs, j => by
    unfold wipe
    by_cases e : v = j
    · subst e
      rw [List.getElem?_set]
      simp [wipe_length]
    · rw [List.getElem?_set_ne e, wipe_get j]
      have : (j ∈ v :: vs) ↔ j ∈ vs := by
        simp only [List.mem_cons]
        exact ⟨fun h => h.elim (fun q => absurd q.symm e) id, .inr⟩
      simp only [this]
theorem Upto.wipe {is vs : List Nat} {σ σ' : L2.St} (u : Upto is σ σ') (h : ∀ i ∈ is, i ∈ vs) : L2.wipe σ' vs = L2.wipe σ vs := by
  apply List.ext_getElem?
  intro j
  rw [wipe_get, wipe_get, u.1]
  by_cases hj : j ∈ vs
  · rw [if_pos hj, if_pos hj]
  · rw [if_neg hj, if_neg hj]
    exact u.2 j fun q => hj (h j q)
theorem Rep.wipe {C : EK → Addr} {H0 : Hp} {M : Wd} {σ : L2.St} {ρ : DS} (r : Rep C H0 M σ ρ) : ∀ vs : List Nat, Rep C H0 M (L2.wipe σ vs) (wipeD ρ vs)
  | [] => r
  | v :: vs => (r.wipe vs).forget v none
abbrev WG := D → DS → (DS → Prop) → Prop
def RXg (C : EK → Addr) (is : List Nat) (t : TG) (g : WG) : Prop := ∀ (H0 : Hp) (M : Wd) (σ : L2.St) (ρ : DS) (v : V) (d : D) (Q : L2.St → Hp → Prop) (N : DS → Prop), Rep C H0 M σ ρ → Rv C M.G v d → g d ρ N → (∀ σ' ρ', Upto is σ σ' → Rep C H0 M σ' ρ' → N ρ' → Q σ' M.H) → t v σ M.H Q
structure GX (X : Cx) (C : EK → Addr) (is : List Nat) (tg : Expr) (g : WG) : Prop where
  ex : ∃ t, PG X tg t ∧ RXg C is t g
def wgName (i : Nat) : WG := fun d ρ N => N (ρ.set i (.is d))
theorem upto_set {σ : L2.St} {i : Nat} {x : Option V} : Upto [i] σ (σ.set i x) := ⟨List.length_set .., fun j hj => List.getElem?_set_ne (fun e => hj (by rw [e]; exact List.mem_singleton_self _))⟩
theorem gx_name {C : EK → Addr} (i : Nat) {x : Str} (hN : X.N.Nodup) (hi : X.N[i]? = some x := by rfl) (hx : Loc X.env.scope x := by first | exact Or.inl rfl | exact Or.inr rfl) (hf : X.fn x = true ∨ X.env.scope.names.lookup x = some .local := by first | exact .inl rfl | exact .inr rfl | assumption) : GX X C [i] (.Name x pos) (wgName i) :=
  ⟨_, pg_name hN hi hx hf, fun H0 M σ ρ v d Q N rep r hw h => h _ _ upto_set (rep.set i r) hw⟩
def setAll : List Nat → List PyData → DS → Option DS
  | [], [], ρ => some ρ
  | i :: is, d :: ds, ρ => setAll is ds (ρ.set i (.is (.py d)))
  | _, _, _ => none
def RXgs (C : EK → Addr) (is : List Nat) (t : TGs) : Prop := ∀ (H0 : Hp) (M : Wd) (σ : L2.St) (ρ ρ' : DS) (vs : List V) (ds : List PyData) (Q : L2.St → Hp → Prop), Rep C H0 M σ ρ → DrAll M.G vs ds → setAll is ds ρ = some ρ' → (∀ σ', Upto is σ σ' → Rep C H0 M σ' ρ' → Q σ' M.H) → t vs σ M.H Q
structure GXs (X : Cx) (C : EK → Addr) (is : List Nat) (tgs : List Expr) : Prop where
  ex : ∃ t, PGs X tgs t ∧ RXgs C is t
theorem gxs_nil {C : EK → Addr} : GXs X C [] [] := by
  refine ⟨_, pgs_nil, fun H0 M σ ρ ρ' vs ds Q rep dr hs h => ?_⟩
  cases dr with
  | nil =>
    cases hs
    exact ⟨rfl, h σ ⟨rfl, fun _ _ => rfl⟩ rep⟩
  | cons _ _ => cases hs
theorem gxs_cons {C : EK → Addr} (i : Nat) {is : List Nat} {x : Str} {es : List Expr} (hN : X.N.Nodup) (h : GXs X C is es) (hi : X.N[i]? = some x := by rfl) (hx : Loc X.env.scope x := by first | exact Or.inl rfl | exact Or.inr rfl) (hf : X.fn x = true ∨ X.env.scope.names.lookup x = some .local := by first | exact .inl rfl | exact .inr rfl | assumption)
    (hs : (assignEach (.Name x pos :: es) X.env).map (·.2) = assign (.Name x pos) X.env :: (assignEach es X.env).map (·.2) := by rfl) : GXs X C (i :: is) (.Name x pos :: es) := by
  obtain ⟨t, a1, a2⟩ := h
  refine ⟨_, pgs_cons (pg_name hN hi hx hf) a1 hs, fun H0 M σ ρ ρ' vs ds Q rep dr hs h => ?_⟩
  cases dr with
  | nil => cases hs
  | cons d1 d2 =>
    refine ⟨_, _, rfl, ?_⟩
    refine a2 H0 M _ _ ρ' _ _ Q (rep.set i (d := .py _) d1) d2 hs fun σ' u r' => h σ' ⟨u.1.trans (List.length_set ..), fun j hj => ?_⟩ r'
    simp only [List.mem_cons, not_or] at hj
    rw [u.2 j hj.2, List.getElem?_set_ne (Ne.symm hj.1)]
def wgTup (is : List Nat) : WG := fun d ρ N => ∃ ds ρ', d = .py (.tuple ds) ∧ setAll is ds ρ = some ρ' ∧ N ρ'
theorem setAll_len : ∀ {is : List Nat} {ds : List PyData} {ρ ρ' : DS}, setAll is ds ρ = some ρ' → ds.length = is.length
  | [], [], _, _, _ => rfl
  | i :: is, d :: ds, _, _, h => congrArg Nat.succ (setAll_len (is := is) (ds := ds) h)
  | [], _ :: _, _, _, h => by cases h
  | _ :: _, [], _, _, h => by cases h
theorem gx_tup {C : EK → Addr} {is : List Nat} {es : List Expr} {k : Nat} (hc : X.calm = true) (h : GXs X C is es) (hn : (assignEach es X.env).length = is.length := by rfl) (hst : (assignEach es X.env).findIdx? (·.1) = none := by rfl) : GX X C is (.Tuple es k pos) (wgTup is) := by
  obtain ⟨t, a1, a2⟩ := h
  refine ⟨_, pg_tup hc a1 hn hst, fun H0 M σ ρ v d Q N rep r hw h => ?_⟩
  obtain ⟨ds, ρ', rfl, hs, n⟩ := hw
  cases (show Dr M.G v (.tuple ds) from r) with
  | tup e dr => exact ⟨_, _, rfl, .of (rep.ok.g _ _ e), by rw [dr.len]; exact setAll_len hs, a2 H0 M σ ρ ρ' _ ds Q rep dr hs fun σ' u r' => h σ' ρ' u r' n⟩
/-- a, b = e -/
def wUnp {Θ : Type} (is : List Nat) (we : WE Θ) : WS Θ := fun N ρ θ => we ρ θ (fun d θ' => wgTup is d ρ fun ρ' => N.nx ρ' θ') N.ex
theorem sx_unp {is : List Nat} {tg : Expr} (he : EX X L Wx .s e we) (hg : GX X L.C is tg (wgTup is)) (hs : swapsWithSole [tg] e pos.line X.env = pure false := by rfl) (hw : swappedStores [tg] e X.env = pure none := by rfl)
    (h1 : (assignEach [tg] X.env).map (·.2) = [assign tg X.env] := by rfl) : SX X L Wx (.Assign [tg] e pos) (wUnp is we) := by
  obtain ⟨t, a1, a2⟩ := he
  obtain ⟨g, g1, g2⟩ := hg
  refine ⟨_, ps_asg a1 g1 hs hw h1, fun M0 M σ ρ θ E N e rep j hw f => ?_⟩
  refine a2 M0.H M σ ρ θ _ _ N.ex rep j hw (fun d θ' M' v e' j' r n => ?_) (fun k θ' M' e' j' n => f.ex M' σ k θ' (e.trans e') j' n)
  exact g2 M0.H M' σ ρ v d _ _ (rep.ext e') r n fun σ' ρ' _ rep' n' => f.nx M' σ' ρ' θ' (e.trans e') e'.g rep' j' n'
/-! ### loops -/
abbrev WI (Θ : Type) := DS → Θ → (List D → Θ → Prop) → (EK → Θ → Prop) → Prop
def ItD (C : EK → Addr) (J : It) (G : Hp) (ds : List D) : Prop := ∀ M : Wd, M.Ok → Same G M.G → (∀ i d, ds[i]? = some d → J.go i M.H ∧ ∀ x H', J.yld i M.H x H' → ∃ M', M'.H = H' ∧ Ext0 M M' ∧ Rv C M'.G x d) ∧ ∀ i, ds.length ≤ i → J.stop i M.H
def RXi (L : Vl) (Wx : WX) (t : TI) (w : WI L.Θ) : Prop := ∀ (H0 : Hp) (M : Wd) (σ : L2.St) (ρ : DS) (θ : L.Θ) (R : It → Hp → Prop) (N : List D → L.Θ → Prop) (Nx : EK → L.Θ → Prop), Rep L.C H0 M σ ρ → L.at θ M → w ρ θ N Nx →
  (∀ ds θ' M' J, Ext M M' → L.at θ' M' → ItD L.C J M'.G ds → N ds θ' → R J M'.H) → (∀ k θ' M', Ext M M' → L.at θ' M' → Nx k θ' → Wx (.ref (L.C k)) none σ M'.H) → t σ M.H R
structure IX (X : Cx) (L : Vl) (Wx : WX) (tg iter : Expr) (w : WI L.Θ) : Prop where
  ex : ∃ t, PI X tg iter t ∧ RXi L Wx t w
def forGo {Θ : Type} (g : WG) (body : WS Θ) (N : EN Θ) : List D → DS → Θ → Prop
  | [], ρ, θ => N.nx ρ θ
  | d :: ds, ρ, θ => g d ρ fun ρ1 => body { N with nx := fun ρ' θ' => forGo g body N ds ρ' θ', ct := fun ρ' θ' => forGo g body N ds ρ' θ', bk := N.nx } ρ1 θ
def wFor {Θ : Type} (wi : WI Θ) (g : WG) (body : WS Θ) : WS Θ := fun N ρ θ => wi ρ θ (fun ds θ' => forGo g body N ds ρ θ') N.ex
theorem sx_for {tg iter : Expr} {wi : WI L.Θ} {is : List Nat} {g : WG} {body : List Stmt} (hp : PassesOwn (model X.prog X.w) X.A X.env X.xe) (hc : X.calm = true) (hi : IX X L Wx tg iter wi) (hg : GX X L.C is tg g) (hb : SXs X L Wx body w)
    (hs : ∀ x, foldedSetIterable iter X.env x = pure x := by intro _; rfl) : SX X L Wx (.For tg iter body [] pos) (wFor wi g w) := by
  obtain ⟨ti, i1, i2⟩ := hi
  obtain ⟨tg, g1, g2⟩ := hg
  obtain ⟨tb, b1, b2⟩ := hb
  refine ⟨_, ps_for hp hc i1 g1 b1 hs, fun M0 M σ ρ θ E N e rep j hw f => ?_⟩
  refine i2 M0.H M σ ρ θ _ _ N.ex rep j hw (fun ds θ1 M1 J e1 j1 hJ n1 => ?_) (fun k θ' M' e' j' n => f.ex M' σ k θ' (e.trans e') j' n)
  refine ⟨fun i m σ H => m = ds.length - i ∧ i ≤ ds.length ∧ ∃ M' ρ' θ', M'.H = H ∧ Ext M0 M' ∧ Same M1.G M'.G ∧ Rep L.C M0.H M' σ ρ' ∧ L.at θ' M' ∧ forGo g w N (ds.drop i) ρ' θ', ⟨ds.length, by simp, Nat.zero_le _, M1, ρ, θ1, rfl, e.trans e1, Same.refl _, rep.ext e1, j1, n1⟩, ?_⟩
  rintro i k σ2 H2 ⟨rfl, hi, M2, ρ2, θ2, rfl, e2, s2, rep2, j2, n2⟩
  obtain ⟨go, stop⟩ := hJ M2 e2.ok s2
  by_cases hlt : i < ds.length
  · have hd : ds[i]? = some ds[i] := List.getElem?_eq_getElem hlt
    obtain ⟨h1, h2⟩ := go i _ hd
    rw [List.drop_eq_getElem_cons hlt] at n2
    refine .inr ⟨h1, fun σ' H' => ∃ M' ρ' θ', M'.H = H' ∧ Ext M0 M' ∧ Same M1.G M'.G ∧ Rep L.C M0.H M' σ' ρ' ∧ L.at θ' M' ∧ forGo g w N (ds.drop (i + 1)) ρ' θ', fun σ' H' q => ⟨_, by omega, rfl, hlt, q⟩, fun x H' hy => ?_⟩
    obtain ⟨M3, rfl, e3, r3⟩ := h2 x H' hy
    refine g2 M0.H M3 σ2 ρ2 x _ _ _ (rep2.ext e3.1) r3 n2 fun σ4 ρ4 _ rep4 n4 => ?_
    have sg := s2.trans e3.1.g
    refine b2 M0 M3 σ4 ρ4 θ2 _ _ (e2.trans e3.1) rep4 (L.ext0 e3 j2) n4 ⟨fun M' σ' ρ' θ' e' g' r' j' n' => ⟨M', ρ', θ', rfl, e', sg.trans g', r', j', n'⟩, f.rt, fun M' σ' ρ' θ' e' g' r' j' n' => f.nx M' σ' ρ' θ' e' (e1.g.trans (sg.trans g')) r' j' n', fun M' σ' ρ' θ' e' g' r' j' n' => ⟨M', ρ', θ', rfl, e', sg.trans g', r', j', n'⟩, f.ex⟩
  · have ei : ds.drop i = [] := List.drop_eq_nil_of_le (by omega)
    rw [ei] at n2
    exact .inl ⟨stop i (by omega), f.nx M2 σ2 ρ2 θ2 e2 (e1.g.trans s2) rep2 j2 n2⟩
def whGo {Θ : Type} (c : WT Θ) (body : WS Θ) (N : EN Θ) : Nat → DS → Θ → Prop
  | 0, _, _ => False
  | n + 1, ρ, θ => c ρ θ (fun b θ1 => if b = true then body { N with nx := fun ρ' θ' => whGo c body N n ρ' θ', ct := fun ρ' θ' => whGo c body N n ρ' θ', bk := N.nx } ρ θ1 else N.nx ρ θ1) N.ex
def wWhile {Θ : Type} (c : WT Θ) (body : WS Θ) : WS Θ := fun N ρ θ => ∃ n, whGo c body N n ρ θ
theorem sx_while {c : Expr} {tc : WT L.Θ} {body : List Stmt} (hp : PassesOwn (model X.prog X.w) X.A X.env X.xe) (hc : TX X L Wx c tc) (hb : SXs X L Wx body w) : SX X L Wx (.While c body [] pos) (wWhile tc w) := by
  obtain ⟨t, c1, c2⟩ := hc
  obtain ⟨tb, b1, b2⟩ := hb
  refine ⟨_, ps_while hp c1 b1, fun M0 M σ ρ θ E N e rep j hw f => ?_⟩
  obtain ⟨n, hw⟩ := hw
  refine ⟨fun m σ' H => ∃ M' ρ' θ', M'.H = H ∧ Ext M0 M' ∧ Same M.G M'.G ∧ Rep L.C M0.H M' σ' ρ' ∧ L.at θ' M' ∧ whGo tc w N m ρ' θ', ⟨n, M, ρ, θ, rfl, e, Same.refl _, rep, j, hw⟩, ?_⟩
  rintro m σ2 H2 ⟨M2, ρ2, θ2, rfl, e2, s2, rep2, j2, n2⟩
  cases m with
  | zero => exact n2.elim
  | succ m =>
    refine c2 M0.H M2 σ2 ρ2 θ2 _ _ N.ex rep2 j2 n2 (fun k θ' M' e' j' n => ?_) (fun k θ' M' e' j' n => f.ex M' σ2 k θ' (e2.trans e') j' n)
    have sg := s2.trans e'.g
    cases k with
    | false => exact f.nx M' σ2 ρ2 θ' (e2.trans e') sg (rep2.ext e') j' n
    | true =>
      refine ⟨fun σ' H' => ∃ M3 ρ3 θ3, M3.H = H' ∧ Ext M0 M3 ∧ Same M.G M3.G ∧ Rep L.C M0.H M3 σ' ρ3 ∧ L.at θ3 M3 ∧ whGo tc w N m ρ3 θ3, fun σ' H' q => ⟨m, Nat.lt_succ_self _, q⟩, ?_⟩
      exact b2 M0 M' σ2 ρ2 θ' _ _ (e2.trans e') (rep2.ext e') j' n ⟨fun M3 σ3 ρ3 θ3 e3 g3 r3 j3 n3 => ⟨M3, ρ3, θ3, rfl, e3, sg.trans g3, r3, j3, n3⟩, f.rt, fun M3 σ3 ρ3 θ3 e3 g3 r3 j3 n3 => f.nx M3 σ3 ρ3 θ3 e3 (sg.trans g3) r3 j3 n3, fun M3 σ3 ρ3 θ3 e3 g3 r3 j3 n3 => ⟨M3, ρ3, θ3, rfl, e3, sg.trans g3, r3, j3, n3⟩, f.ex⟩
/-! ### raise -/
structure ExcOk (K : PySem.W.Frag) (mg : Str → Option Value) (x : Str) (C : Addr) : Prop where
  g : mg x = some (.ref C)
  e : PySem.W.excIn K C [.type "ValueError", .type "Exception", .type "BaseException", .type "object"] "ValueError.__new__" = true
  kp : PySem.W.keepIn K (.ref C) = true
  b : PySem.W.subIn K (.ref C) (.type "BaseException") = some true
  t : PySem.W.typeIn K (.ref C) = some (.type "type")
def wRaise {Θ : Type} (k : EK) : WS Θ := fun N _ θ => N.ex k θ
theorem sx_raise (k : EK) {x z : Str} {j : Nat} {p p2 p3 : Pos} (hc : X.calm = true) (tk : Takes X Wx) (F : ExcOk X.K X.mg x (L.C k)) (hg : Gl X x) (hdb : (x == ("__debug__" : Str)) = false := by decide) :
    SX X L Wx (.Raise (some (.Call (.Name x p) [.Constant (.str z) j p2] [] p3)) none pos) (wRaise k) :=
  ⟨_, ps_raise hc tk (pmk_own PySem.F.excBase_ValueError F.e F.g F.kp (raises_own F.b F.t) hg hdb), fun M0 M σ ρ θ E N e rep j hw f => f.ex M σ k θ e j hw⟩
/-! ### a def -/
def startD (n : Nat) (ds : List D) : DS := ds.map Sl.is ++ List.replicate (n - ds.length) Sl.no
theorem rep_start {C : EK → Addr} {M : Wd} {N : List Str} {vs : List V} {ds : List D} (ok : M.Ok) (r : Paired (Re C .s M) vs ds) : Rep C M.H M (L2.start N vs) (startD N.length ds) := by
  have hl : vs.length = ds.length := Paired.length r
  refine ⟨ok, by unfold L2.start startD; simp [hl], fun i => i, fun i j d e h _ _ => ?_, fun i x h => ?_⟩
  · unfold startD at h
    by_cases hi : i < (ds.map Sl.is).length
    · rw [List.getElem?_append_left hi, List.getElem?_map] at h
      cases q : ds[i]? with
      | none => rw [q] at h; cases h
      | some y => rw [q] at h; cases h
    · rw [List.getElem?_append_right (Nat.le_of_not_lt hi), List.getElem?_replicate] at h
      split at h <;> cases h
  · unfold startD at h
    by_cases hi : i < (ds.map Sl.is).length
    · rw [List.getElem?_append_left hi, List.getElem?_map] at h
      cases q : ds[i]? with
      | none => rw [q] at h; cases h
      | some y =>
        rw [q] at h
        cases h
        have hv : ∃ v, vs[i]? = some v ∧ Rv C M.G v y := by
          have gen : ∀ {vs : List V} {ds : List D} {i : Nat} {y : D}, Paired (Re C .s M) vs ds → ds[i]? = some y → ∃ v, vs[i]? = some v ∧ Rv C M.G v y := by
            intro vs ds i y r
            induction r generalizing i with
            | nil => intro q; simp at q
            | cons h _ ih =>
              intro q
              cases i with
              | zero =>
                simp at q
                subst q
                exact ⟨_, rfl, h⟩
              | succ i => simpa using ih (by simpa using q)
          exact gen r q
        obtain ⟨v, e1, e2⟩ := hv
        refine ⟨v, ?_, e2⟩
        unfold L2.start
        rw [List.getElem?_append_left (by rw [List.length_map, hl]; simpa using hi), List.getElem?_map, e1]
        rfl
    · rw [List.getElem?_append_right (Nat.le_of_not_lt hi), List.getElem?_replicate] at h
      split at h <;> cases h
      trivial
/-- the spec that a body's reading gives -/
def bodyEN {Θ : Type} (N : D → Θ → Prop) (Nx : EK → Θ → Prop) : EN Θ := { nx := fun _ θ => N (.py .none) θ, rt := N, ex := Nx }
abbrev WxE (E : XK) : WX := fun cls d _ H => E cls d H
section
variable {P : Program} {w : World} {K : PySem.W.Frag} {mg : Str → Option Value} {base : Heap}
theorem def_ok {x qual : Str} {params : Arguments} {body : List Stmt} {scope : Scope} {f : Addr} {fd : FuncData} {N ps : List Str} {k : Nat} {L : Vl} {spec : Spec L.Θ} {wb : WS L.Θ} (F : FunD K x qual params body scope [] [] f fd) (S : FnScope N ps scope)
    (len : ∀ ds θ N Nx, spec ds θ N Nx → ds.length = ps.length) (hw : ∀ ds θ Nn Nx, spec ds θ Nn Nx → wb (bodyEN Nn Nx) (startD N.length ds) θ)
    (hbody : ∀ (cdv : Value) (A : Around) (outer : List Env) (s : Shared) (H : Hp) (E : XK), Room k (A.deeper (envOfC qual scope s.heap.objs.size f cdv)) → SXs (cxOf (L2.CX P w) P w K mg base N qual scope f cdv A outer s H E) L (WxE E) body wb) :
    FnOk P w K mg base (L2.CX P w) (k + 1) f fd ps (SpD L spec) := by
  refine F.ok S (fun vs H Q E h => ?_) (fun cdv A outer s H vs Q E hr h => ?_)
  · obtain ⟨M, θ, ds, Nn, Nx, _, _, _, r, sp, _⟩ := h
    rw [Paired.length r]
    exact len _ _ _ _ sp
  · obtain ⟨M, θ, ds, Nn, Nx, rfl, ok, j, r, sp, h1, h2⟩ := h
    obtain ⟨t, a1, a2⟩ := hbody cdv A outer s M.H E hr
    refine ⟨t, a1, a2 M M _ _ θ _ (bodyEN Nn Nx) (.refl ok) (rep_start ok r) j (hw ds θ Nn Nx sp) ⟨fun M' σ ρ θ' e _ _ j' n => h1 (.py .none) θ' M' _ e j' Dr.non n, fun M' v d θ' e j' r' n => h1 d θ' M' v e j' r' n, fun _ _ _ _ _ _ _ _ q => q.elim, fun _ _ _ _ _ _ _ _ q => q.elim, fun M' σ k θ' e j' n => h2 k θ' M' e j' n⟩⟩
theorem cal_of {x qual : Str} {params : Arguments} {body : List Stmt} {scope : Scope} {f : Addr} {fd : FuncData} {ps : List Str} {k : Nat} {L : Vl} {spec : Spec L.Θ} (F : FunD K x qual params body scope [] [] f fd) (G : FnOk P w K mg base (L2.CX P w) k f fd ps (SpD L spec)) (hm : mg x = some (.ref f)) (hb : Binds K fd ps []) : CalD P w K mg base k x L spec :=
  ⟨f, fd, ps, G, hm, F.kp, hb⟩
end
end RT
end
section
set_option Elab.async false
set_option linter.all false
set_option maxRecDepth 100000
set_option maxHeartbeats 2000000
namespace RT
open PySem PySem.Spec PyProof.Rows L2
variable {X : Cx} {L : Vl} {Wx : WX} {C : EK → Addr} {m m' : Md} {e a b : Expr} {es : List Expr} {we wa wb : WE L.Θ} {wr : WA L.Θ} {pos p p2 : Pos}
/-! ### new objects as results -/
theorem ext0_add {M : Wd} (ok : M.Ok) {p : Addr} {o : HO} (h : M.H p = none) : Ext0 M (M.add p o) := .add ok h
theorem new_lst {M : Wd} {Q : VK} {vs : List V} {ds : List PyData} (ok : M.Ok) (dr : DrAll M.G vs ds) (q : ∀ M' v, Ext0 M M' → Rv C M'.G v (.py (.list ds)) → Q v M'.H) : ∀ p, M.H p = none → Q (.ref p) (upd M.H p (.lst vs)) := fun p np => by
  have x := Ext0.add ok (o := .lst vs) np
  exact q (M.add p (.lst vs)) (.ref p) x (Dr.lst add_at (dr.mono x.1.g))
theorem new_tup {M : Wd} {Q : VK} {vs : List V} {ds : List PyData} (ok : M.Ok) (dr : DrAll M.G vs ds) (q : ∀ M' v, Ext0 M M' → Rv C M'.G v (.py (.tuple ds)) → Q v M'.H) : ∀ p, M.H p = none → Q (.ref p) (upd M.H p (.tup vs)) := fun p np => by
  have x := Ext0.add ok (o := .tup vs) np
  exact q (M.add p (.tup vs)) (.ref p) x (Dr.tup add_at (dr.mono x.1.g))
/-! ### + - * // % -/
def fAdd : F2
  | .py (.int i), .py (.int j) => some (.py (.int (i + j)))
  | .py (.str s), .py (.str t) => some (.py (.str (s ++ t)))
  | .py (.list s), .py (.list t) => some (.py (.list (s ++ t)))
  | .py (.tuple s), .py (.tuple t) => some (.py (.tuple (s ++ t)))
  | _, _ => none
def kAdd : D → D → Prop
  | .py (.str s), .py (.str t) => s.length + t.length ≤ sizeLine
  | .py (.list s), .py (.list t) => s.length + t.length ≤ sizeLine
  | .py (.tuple s), .py (.tuple t) => s.length + t.length ≤ sizeLine
  | _, _ => True
theorem o_add : OpD X C (binaryOp .Add) fAdd kAdd := by
  refine ⟨_, op_add.or (op_add_str.or (op_cat.or op_catA)), fun M x y dx dy d Q ok rx ry hf hk q => ?_⟩
  unfold fAdd at hf
  split at hf
  · cases hf
    exact .inl ⟨_, _, rx.int, ry.int, q M _ (.refl ok) (Dr.int _)⟩
  · cases hf
    exact .inr (.inl ⟨_, _, rx.str, ry.str, hk, q M _ (.refl ok) (Dr.str _)⟩)
  · cases hf
    obtain ⟨a, xs, e1, h1, r1⟩ := Re.list ok rx
    obtain ⟨b, ys, e2, h2, r2⟩ := Re.list ok ry
    have hk' : _ + _ ≤ sizeLine := hk
    exact .inr (.inr (.inl ⟨a, b, xs, ys, e1, e2, h1, h2, by rw [r1.len, r2.len]; exact hk', new_lst ok (r1.append r2) q⟩))
  · cases hf
    obtain ⟨a, xs, e1, h1, r1⟩ := Re.tuple ok rx
    obtain ⟨b, ys, e2, h2, r2⟩ := Re.tuple ok ry
    have hk' : _ + _ ≤ sizeLine := hk
    refine .inr (.inr (.inr ⟨a, b, xs, ys, e1, e2, .of h1, .of h2, by rw [r1.len, r2.len]; exact hk', fun h0 => ?_, fun _ h0 => ?_, fun _ _ => new_tup ok (r1.append r2) q⟩))
    · subst h0
      cases r1
      rcases ry with ry | ⟨_, _, _, _, e3, _⟩
      · rw [← e2]
        exact q M y (.refl ok) ry
      · cases e3
    · subst h0
      cases r2
      rcases rx with rx | ⟨_, _, _, _, e3, _⟩
      · rw [← e1, List.append_nil] at *
        exact q M x (.refl ok) rx
      · cases e3
  · cases hf
def fSub : F2
  | .py (.int i), .py (.int j) => some (.py (.int (i - j)))
  | _, _ => none
def kTrue : D → D → Prop := fun _ _ => True
theorem o_sub : OpD X C (binaryOp .Sub) fSub kTrue := by
  refine ⟨_, op_sub, fun M x y dx dy d Q ok rx ry hf hk q => ?_⟩
  unfold fSub at hf
  split at hf
  · cases hf
    exact ⟨_, _, rx.int, ry.int, q M _ (.refl ok) (Dr.int _)⟩
  · cases hf
def fMul : F2
  | .py (.int i), .py (.int j) => some (.py (.int (i * j)))
  | .py (.list s), .py (.int j) => some (.py (.list (List.replicate j.toNat s).flatten))
  | _, _ => none
def kMul : D → D → Prop
  | .py (.int i), .py (.int j) => CMul i j
  | .py (.list s), .py (.int j) => -(2 ^ 63) ≤ j ∧ j < 2 ^ 63 ∧ s.length * j.toNat ≤ sizeLine
  | _, _ => True
theorem o_mul : OpD X C (binaryOp .Mult) fMul kMul := by
  refine ⟨_, op_mul.or op_rep, fun M x y dx dy d Q ok rx ry hf hk q => ?_⟩
  unfold fMul at hf
  split at hf
  · cases hf
    exact .inl ⟨_, _, rx.int, ry.int, hk, q M _ (.refl ok) (Dr.int _)⟩
  · cases hf
    obtain ⟨a, xs, e1, h1, r1⟩ := Re.list ok rx
    obtain ⟨k1, k2, k3⟩ := hk
    exact .inr ⟨a, _, xs, e1, ry.int, h1, k1, k2, by rw [r1.len]; exact k3, new_lst ok (DrAll.rep _ r1) q⟩
  · cases hf
def fDiv : F2
  | .py (.int i), .py (.int j) => some (.py (.int (i.fdiv j)))
  | _, _ => none
def kDiv : D → D → Prop
  | .py (.int i), .py (.int j) => CDivN i j
  | _, _ => True
theorem o_div : OpD X C (binaryOp .FloorDiv) fDiv kDiv := by
  refine ⟨_, op_fdivN, fun M x y dx dy d Q ok rx ry hf hk q => ?_⟩
  unfold fDiv at hf
  split at hf
  · cases hf
    exact ⟨_, _, rx.int, ry.int, hk, q M _ (.refl ok) (Dr.int _)⟩
  · cases hf
def fMod : F2
  | .py (.int i), .py (.int j) => some (.py (.int (i % j)))
  | _, _ => none
def kMod : D → D → Prop
  | .py (.int _), .py (.int j) => 0 < j
  | _, _ => True
theorem o_mod : OpD X C (binaryOp .Mod) fMod kMod := by
  refine ⟨_, op_mod, fun M x y dx dy d Q ok rx ry hf hk q => ?_⟩
  unfold fMod at hf
  split at hf
  · cases hf
    exact ⟨_, _, rx.int, ry.int, hk, q M _ (.refl ok) (Dr.int _)⟩
  · cases hf
theorem o_iadd : OpD X C (inplaceOp .Add) fAdd (fun x y => (∃ i, x = .py (.int i)) ∧ ∃ j, y = .py (.int j)) := by
  refine ⟨_, iop_add, fun M x y dx dy d Q ok rx ry hf hk q => ?_⟩
  obtain ⟨⟨i, rfl⟩, j, rfl⟩ := hk
  cases hf
  exact ⟨_, _, rx.int, ry.int, q M _ (.refl ok) (Dr.int _)⟩
theorem o_imul : OpD X C (inplaceOp .Mult) fMul (fun x y => ∃ i j, x = .py (.int i) ∧ y = .py (.int j) ∧ CMul i j) := by
  refine ⟨_, iop_mul, fun M x y dx dy d Q ok rx ry hf hk q => ?_⟩
  obtain ⟨i, j, rfl, rfl, hc⟩ := hk
  cases hf
  exact ⟨_, _, rx.int, ry.int, hc, q M _ (.refl ok) (Dr.int _)⟩
/-! ### comparisons -/
def fCmp (p : Int → Int → Bool) : F2
  | .py (.int i), .py (.int j) => some (.py (.bool (p i j)))
  | _, _ => none
theorem o_cmp {op : CmpOp} {p : Int → Int → Bool} (h : OpR X (compareOp op) (rI0 fun i j => .bl (p i j))) : OpD X C (compareOp op) (fCmp p) kTrue := by
  refine ⟨_, h, fun M x y dx dy d Q ok rx ry hf hk q => ?_⟩
  unfold fCmp at hf
  split at hf
  · cases hf
    exact ⟨_, _, rx.int, ry.int, q M _ (.refl ok) (Dr.bl _)⟩
  · cases hf
abbrev fLt : F2 := fCmp fun i j => decide (i < j)
abbrev fLe : F2 := fCmp fun i j => decide (i ≤ j)
abbrev fGt : F2 := fCmp fun i j => decide (j < i)
abbrev fGe : F2 := fCmp fun i j => decide (j ≤ i)
theorem o_lt : OpD X C (compareOp .Lt) fLt kTrue := o_cmp op_lt
theorem o_le : OpD X C (compareOp .LtE) fLe kTrue := o_cmp op_le
theorem o_gt : OpD X C (compareOp .Gt) fGt kTrue := o_cmp op_gt
theorem o_ge : OpD X C (compareOp .GtE) fGe kTrue := o_cmp op_ge
def fEq : F2
  | .py d, .py e => some (.py (.bool (PyData.eqv d e)))
  | _, _ => none
def fNe : F2
  | .py d, .py e => some (.py (.bool (!PyData.eqv d e)))
  | _, _ => none
def kEq : D → D → Prop
  | .py d, .py e => SeqAt.shaped d = true ∧ SeqAt.shaped e = true
  | _, _ => True
theorem o_eq (hu : X.A.units + 64 < cLine) : OpD X C (compareOp .Eq) fEq kEq := by
  refine ⟨_, op_eqD hu, fun M x y dx dy d Q ok rx ry hf hk q => ?_⟩
  unfold fEq at hf
  split at hf
  · cases hf
    exact ⟨_, _, rx.dp X.K ok, ry.dp X.K ok, hk.1, hk.2, q M _ (.refl ok) (Dr.bl _)⟩
  · cases hf
theorem o_ne (hu : X.A.units + 64 < cLine) : OpD X C (compareOp .NotEq) fNe kEq := by
  refine ⟨_, op_neD hu, fun M x y dx dy d Q ok rx ry hf hk q => ?_⟩
  unfold fNe at hf
  split at hf
  · cases hf
    exact ⟨_, _, rx.dp X.K ok, ry.dp X.K ok, hk.1, hk.2, q M _ (.refl ok) (Dr.bl _)⟩
  · cases hf
def isNon : D → Bool
  | .py .none => true
  | _ => false
theorem non_iff {M : Wd} {v : V} {d : D} (r : Re C .r M v d) : decide (v = .non) = isNon d := by
  rcases r with r | ⟨a, xs, ds, rfl, rfl, _⟩
  · cases d with
    | py d =>
      cases (show Dr M.G v d from r) <;> rfl
    | ex k =>
      obtain ⟨a, rfl, _⟩ := r
      rfl
    | rf a =>
      cases (show v = .ref a from r)
      rfl
  · rfl
/-- is None; is True, is False of a bool -/
def fIs : F2
  | d, .py .none => some (.py (.bool (isNon d)))
  | .py (.bool i), .py (.bool j) => some (.py (.bool (decide (i = j))))
  | _, _ => none
def fIsN : F2
  | d, .py .none => some (.py (.bool (!isNon d)))
  | .py (.bool i), .py (.bool j) => some (.py (.bool (!decide (i = j))))
  | _, _ => none
theorem o_is : OpD X C (compareOp .Is) fIs kTrue := by
  refine ⟨_, op_isN.or op_isBl, fun M x y dx dy d Q ok rx ry hf hk q => ?_⟩
  unfold fIs at hf
  split at hf
  · cases hf
    refine .inl ⟨ry.non, ?_⟩
    rw [non_iff rx]
    exact q M _ (.refl ok) (Dr.bl _)
  · cases hf
    exact .inr ⟨_, _, rx.bl, ry.bl, q M _ (.refl ok) (Dr.bl _)⟩
  · cases hf
theorem o_isN : OpD X C (compareOp .IsNot) fIsN kTrue := by
  refine ⟨_, op_notN.or op_notBl, fun M x y dx dy d Q ok rx ry hf hk q => ?_⟩
  unfold fIsN at hf
  split at hf
  · cases hf
    refine .inl ⟨ry.non, ?_⟩
    rw [non_iff rx]
    exact q M _ (.refl ok) (Dr.bl _)
  · cases hf
    exact .inr ⟨_, _, rx.bl, ry.bl, q M _ (.refl ok) (Dr.bl _)⟩
  · cases hf
/-- in: a list of anything, a tuple of ints, a sign in a text -/
def sgn (s : Str) : Option Nat := match s.cps.toList with
  | [c] => some c
  | _ => none
def inD : D → D → Option Bool
  | .py d, .py (.list ds) => some (ds.any fun z => PyData.eqv z d)
  | .py d, .py (.tuple ds) => some (ds.any fun z => PyData.eqv z d)
  | .py (.str s), .py (.str z) => (sgn s).map fun c => decide (c ∈ z.cps.toList)
  | _, _ => none
def fIn : F2 := fun x y => (inD x y).map fun b => .py (.bool b)
def fNi : F2 := fun x y => (inD x y).map fun b => .py (.bool (!b))
def kIn : D → D → Prop
  | .py d, .py (.list ds) => SeqAt.shaped d = true ∧ SeqAt.shaped (.list ds) = true
  | .py d, .py (.tuple ds) => (∃ i, d = .int i) ∧ ∃ ns : List Int, ds = ns.map .int
  | _, _ => True
theorem inV_ints (i : Int) : ∀ ns : List Int, inV (.int i) (ns.map V.int) = (ns.map PyData.int).any fun z => PyData.eqv z (.int i)
  | [] => rfl
  | n :: ns => by
    show (eqV (.int n) (.int i) || inV (.int i) (ns.map V.int)) = (PyData.eqv (.int n) (.int i) || (ns.map PyData.int).any fun z => PyData.eqv z (.int i))
    rw [inV_ints i ns]
    simp only [PyData.eqv]
    rfl
theorem flat_ints : ∀ ns : List Int, (ns.map V.int).all flatV = true
  | [] => rfl
  | n :: ns => by
    show (true && (ns.map V.int).all flatV) = true
    rw [flat_ints ns]
    rfl
theorem sgn_eq {s : Str} {c : Nat} (h : sgn s = some c) : s = ⟨#[c]⟩ := by
  unfold sgn at h
  split at h
  · rename_i d e
    cases h
    obtain ⟨⟨l⟩⟩ := s
    simp only at e
    subst e
    rfl
  · cases h
theorem o_in (hu : X.A.units + 65 < cLine) : OpD X C (compareOp .In) fIn kIn := by
  refine ⟨_, (op_inD hu).or (op_in_seq.or op_in_sign), fun M x y dx dy d Q ok rx ry hf hk q => ?_⟩
  unfold fIn inD at hf
  split at hf
  · cases hf
    exact .inl ⟨_, _, rx.dp X.K ok, ry.dp X.K ok, hk.1, hk.2, q M _ (.refl ok) (Dr.bl _)⟩
  · cases hf
    obtain ⟨⟨i, rfl⟩, ns, rfl⟩ := hk
    obtain ⟨a, xs, e1, h1, r1⟩ := Re.tuple ok ry
    cases r1.ints
    refine .inr (.inl ⟨a, _, e1, .inr (.of h1), by rw [rx.int]; rfl, flat_ints ns, ?_⟩)
    rw [rx.int]
    show Q (.bl (inV (.int i) (ns.map V.int))) M.H
    rw [inV_ints]
    exact q M _ (.refl ok) (Dr.bl _)
  · rename_i s z
    cases hs : sgn s with
    | none =>
      rw [hs] at hf
      cases hf
    | some c =>
      rw [hs] at hf
      cases hf
      refine .inr (.inr ⟨c, z, ?_, ry.str, q M _ (.refl ok) (Dr.bl _)⟩)
      rw [rx.str, sgn_eq hs]
  · cases hf
theorem o_ni (hu : X.A.units + 65 < cLine) : OpD X C (compareOp .NotIn) fNi kIn := by
  refine ⟨_, (op_notInD hu).or (op_notIn_seq.or op_notIn_sign), fun M x y dx dy d Q ok rx ry hf hk q => ?_⟩
  unfold fNi inD at hf
  split at hf
  · cases hf
    exact .inl ⟨_, _, rx.dp X.K ok, ry.dp X.K ok, hk.1, hk.2, q M _ (.refl ok) (Dr.bl _)⟩
  · cases hf
    obtain ⟨⟨i, rfl⟩, ns, rfl⟩ := hk
    obtain ⟨a, xs, e1, h1, r1⟩ := Re.tuple ok ry
    cases r1.ints
    refine .inr (.inl ⟨a, _, e1, .inr (.of h1), by rw [rx.int]; rfl, flat_ints ns, ?_⟩)
    rw [rx.int]
    show Q (.bl (!inV (.int i) (ns.map V.int))) M.H
    rw [inV_ints]
    exact q M _ (.refl ok) (Dr.bl _)
  · rename_i s z
    cases hs : sgn s with
    | none =>
      rw [hs] at hf
      cases hf
    | some c =>
      rw [hs] at hf
      cases hf
      refine .inr (.inr ⟨c, z, ?_, ry.str, q M _ (.refl ok) (Dr.bl _)⟩)
      rw [rx.str, sgn_eq hs]
  · cases hf
/-! ### subscripts, slices -/
def fIx : F2
  | .py (.list ds), .py (.int i) => (atI ds i).map .py
  | .py (.tuple ds), .py (.int i) => (atI ds i).map .py
  | .py (.str z), .py (.int i) => (atI z.cps.toList i).map fun c => .py (.str ⟨#[c]⟩)
  | _, _ => none
def kIx : D → D → Prop
  | .py (.str z), _ => z.length ≤ sizeLine
  | _, _ => True
theorem atI_dr {G : Hp} {vs : List V} {ds : List PyData} {i : Int} {d : PyData} (r : DrAll G vs ds) (h : atI ds i = some d) : ∃ v, atI vs i = some v ∧ Dr G v d := by
  unfold atI at h ⊢
  rw [r.len]
  cases q : ixN ds.length i with
  | none =>
    rw [q] at h
    cases h
  | some j =>
    rw [q] at h
    exact r.get h
theorem ex_ix (ha : EX X L Wx m a wa) (hb : EX X L Wx m' b wb) (hs : PlainIx b := by exact fun _ _ => rfl) : EX X L Wx .s (.Subscript a b pos) (wOp fIx kIx wa wb) := by
  obtain ⟨t, a1, a2⟩ := ha
  obtain ⟨u, b1, b2⟩ := hb
  refine ⟨_, pe_ix ix_seq a1 b1 hs, rx_op a2 b2 fun M x y dx dy d Q ok rx ry hf hk q => ?_⟩
  unfold fIx at hf
  split at hf
  · cases h : atI _ _ with
    | none => rw [h] at hf; cases hf
    | some z =>
      rw [h] at hf
      cases hf
      obtain ⟨p, xs, e1, h1, r1⟩ := Re.list ok rx
      obtain ⟨v, hv, r⟩ := atI_dr r1 h
      exact .inl ⟨p, xs, _, v, e1, ry.int, .of h1, hv, q M v (.refl ok) r⟩
  · cases h : atI _ _ with
    | none => rw [h] at hf; cases hf
    | some z =>
      rw [h] at hf
      cases hf
      obtain ⟨p, xs, e1, h1, r1⟩ := Re.tuple ok rx
      obtain ⟨v, hv, r⟩ := atI_dr r1 h
      exact .inr (.inl ⟨p, xs, _, v, e1, ry.int, .of h1, hv, q M v (.refl ok) r⟩)
  · cases h : atI _ _ with
    | none => rw [h] at hf; cases hf
    | some z =>
      rw [h] at hf
      cases hf
      exact .inr (.inr ⟨_, _, z, rx.str, ry.int, hk, h, q M _ (.refl ok) (Dr.str _)⟩)
  · cases hf
def cutD {α : Type} (xs : List α) (lo hi : Option Int) : List α := (xs.drop (HT.sIx xs.length 0 lo)).take (HT.sIx xs.length xs.length hi - HT.sIx xs.length 0 lo)
theorem cut_dr {G : Hp} {vs : List V} {ds : List PyData} (r : DrAll G vs ds) (lo hi : Option Int) : DrAll G (cutV vs lo hi) (cutD ds lo hi) := by
  unfold cutV cutD
  rw [r.len]
  exact (r.drop _).take _
def fSl : D → Option Int → Option Int → Option D
  | .py (.list ds), lo, hi => some (.py (.list (cutD ds lo hi)))
  | .py (.tuple ds), lo, hi => some (.py (.tuple (cutD ds lo hi)))
  | .py (.str z), lo, hi => some (.py (.str (cutS z lo hi)))
  | _, _, _ => none
abbrev WO (Θ : Type) := DS → Θ → (Option Int → Θ → Prop) → (EK → Θ → Prop) → Prop
def RXo (L : Vl) (Wx : WX) (t : TO) (w : WO L.Θ) : Prop := ∀ (H0 : Hp) (M : Wd) (σ : L2.St) (ρ : DS) (θ : L.Θ) (Q : Option Int → Hp → Prop) (N : Option Int → L.Θ → Prop) (Nx : EK → L.Θ → Prop), Rep L.C H0 M σ ρ → L.at θ M → w ρ θ N Nx →
  (∀ o θ' M', Ext M M' → L.at θ' M' → N o θ' → Q o M'.H) → (∀ k θ' M', Ext M M' → L.at θ' M' → Nx k θ' → Wx (.ref (L.C k)) none σ M'.H) → t σ M.H Q
structure OX (X : Cx) (L : Vl) (Wx : WX) (e : Option Expr) (w : WO L.Θ) : Prop where
  ex : ∃ t, PO X e t ∧ RXo L Wx t w
def wNoPart {Θ : Type} : WO Θ := fun _ θ N _ => N none θ
def wPart {Θ : Type} (w : WE Θ) : WO Θ := fun ρ θ N Nx => w ρ θ (fun d θ' => ∃ i, d = .py (.int i) ∧ N (some i) θ') Nx
theorem ox_none : OX X L Wx none wNoPart := ⟨_, po_none, fun H0 M σ ρ θ Q N Nx rep j hw hN hX => hN none θ M (.refl rep.ok) j hw⟩
theorem ox_some (h : EX X L Wx m e we) : OX X L Wx (some e) (wPart we) := by
  obtain ⟨t, a1, a2⟩ := h
  refine ⟨_, po_some a1, fun H0 M σ ρ θ Q N Nx rep j hw hN hX => ?_⟩
  refine a2 H0 M σ ρ θ _ _ Nx rep j hw (fun d θ' M' v e' j' r n => ?_) hX
  obtain ⟨i, rfl, n⟩ := n
  exact ⟨i, r.r.int, hN (some i) θ' M' e' j' n⟩
def wSl {Θ : Type} (wa : WE Θ) (wl wh : WO Θ) : WE Θ := fun ρ θ N Nx => wa ρ θ (fun x θ1 => wl ρ θ1 (fun lo θ2 => wh ρ θ2 (fun hi θ3 => ∃ d, fSl x lo hi = some d ∧ kIx x x ∧ N d θ3) Nx) Nx) Nx
theorem ex_sl {lo hi : Option Expr} {wl wh : WO L.Θ} (ha : EX X L Wx m a wa) (hl : OX X L Wx lo wl) (hh : OX X L Wx hi wh) : EX X L Wx .s (.Subscript a (.Slice lo hi none p2) pos) (wSl wa wl wh) := by
  obtain ⟨t, a1, a2⟩ := ha
  obtain ⟨u, l1, l2⟩ := hl
  obtain ⟨s, h1, h2⟩ := hh
  refine ⟨_, pe_slice (sl_list.or (sl_tupA.or sl_str)) a1 l1 h1, fun H0 M σ ρ θ Q N Nx rep j hw hN hX => ?_⟩
  refine a2 H0 M σ ρ θ _ _ Nx rep j hw (fun x θ1 M1 v1 e1 j1 r1 n1 => ?_) hX
  refine l2 H0 M1 σ ρ θ1 _ _ Nx (rep.ext e1) j1 n1 (fun lo θ2 M2 e2 j2 n2 => ?_) (fun k θ' M' e j n => hX k θ' M' (e1.trans e) j n)
  refine h2 H0 M2 σ ρ θ2 _ _ Nx ((rep.ext e1).ext e2) j2 n2 (fun hi θ3 M3 e3 j3 n3 => ?_) (fun k θ' M' e j n => hX k θ' M' (e1.trans (e2.trans e)) j n)
  obtain ⟨d, hf, hk, n⟩ := n3
  have ok := e3.ok
  have r3 := ((r1.ext e2).ext e3).r
  have q : ∀ M' v, Ext0 M3 M' → Rv L.C M'.G v d → Q v M'.H := fun M' v e r => hN d θ3 M' v (e1.trans (e2.trans (e3.trans e.1))) (L.ext0 e j3) r n
  unfold fSl at hf
  split at hf
  · cases hf
    obtain ⟨p, xs, ex, hx, rx⟩ := Re.list ok r3
    exact .inl ⟨p, xs, ex, .of hx, new_lst ok (cut_dr rx _ _) q⟩
  · cases hf
    obtain ⟨p, xs, ex, hx, rx⟩ := Re.tuple ok r3
    refine .inr (.inl ⟨p, xs, ex, .of hx, fun hw => ?_, fun _ => new_tup ok (cut_dr rx _ _) q⟩)
    rcases r3 with r3 | ⟨_, _, _, _, e5, _⟩
    · rw [← ex]
      refine q M3 v1 (.refl ok) ?_
      rename_i ds
      have e0 : cutD ds lo hi = ds := by
        unfold cutD
        rw [← rx.len, hw.1, hw.2, Nat.sub_zero, List.drop_zero, rx.len, List.take_length]
      rw [e0]
      exact r3
    · cases e5
  · cases hf
    exact .inr (.inr ⟨_, r3.str, hk, q M3 _ (.refl ok) (Dr.str _)⟩)
  · cases hf
/-- xs[::-1] of a list -/
def wRevL {Θ : Type} (wa : WE Θ) : WE Θ := fun ρ θ N Nx => wa ρ θ (fun x θ1 => ∃ ds, x = .py (.list ds) ∧ N (.py (.list ds.reverse)) θ1) Nx
theorem ex_revL {k : Nat} {p1 p2 p3 : Pos} (ha : EX X L Wx m a wa) : EX X L Wx .s (.Subscript a (.Slice none none (some (.UnaryOp .USub (.Constant (.int 1) k p1) p2)) p3) pos) (wRevL wa) := by
  obtain ⟨t, a1, a2⟩ := ha
  refine ⟨_, pe_revL a1, fun H0 M σ ρ θ Q N Nx rep j hw hN hX => ?_⟩
  refine a2 H0 M σ ρ θ _ _ Nx rep j hw (fun x θ1 M1 v1 e1 j1 r1 n1 => ?_) hX
  obtain ⟨ds, rfl, n⟩ := n1
  obtain ⟨p, xs, ex, hx, rx⟩ := Re.list e1.ok r1.r
  exact ⟨p, xs, ex, .of hx, new_lst (C := L.C) e1.ok rx.rev fun M' v e r => hN (.py (.list ds.reverse)) θ1 M' v (e1.trans e.1) (L.ext0 e j1) r n⟩
/-! ### built-in functions -/
abbrev FB := List D → Option D
structure CalB (X : Cx) (C : EK → Addr) (g : Value) (f : FB) (okc : List D → Prop) : Prop where
  ex : ∃ r, CallR X g r ∧ ∀ (M : Wd) (vs : List V) (ds : List D) (d : D) (Q : VK), M.Ok → Paired (Re C .r M) vs ds → f ds = some d → okc ds → (∀ M' v, Ext0 M M' → Rv C M'.G v d → Q v M'.H) → r vs M.H Q
def wBlt {Θ : Type} (f : FB) (okc : List D → Prop) (wr : WA Θ) : WE Θ := fun ρ θ N Nx => wr ρ θ (fun ds θ1 => ∃ d, f ds = some d ∧ okc ds ∧ N d θ1) Nx
theorem rx_blt {f : FB} {okc : List D → Prop} {r : List V → Hp → VK → Prop} {t : TA} (h : RXa L Wx .r t wr) (hr : ∀ (M : Wd) (vs : List V) (ds : List D) (d : D) (Q : VK), M.Ok → Paired (Re L.C .r M) vs ds → f ds = some d → okc ds → (∀ M' v, Ext0 M M' → Rv L.C M'.G v d → Q v M'.H) → r vs M.H Q) : RXe L Wx .s (tCB r t) (wBlt f okc wr) := by
  intro H0 M σ ρ θ Q N Nx rep j hw hN hX
  refine h H0 M σ ρ θ _ _ Nx rep j hw (fun ds θ1 M1 vs e1 j1 r1 n1 => ?_) hX
  obtain ⟨d, hf, hk, n⟩ := n1
  exact hr M1 vs ds d Q e1.ok r1 hf hk fun M' v e r => hN d θ1 M' v (e1.trans e.1) (L.ext0 e j1) r n
theorem ex_blt {x : Str} {id : String} {f : FB} {okc : List D → Prop} (c : CalB X L.C (.builtin id) f okc) (hm : X.mg x = none) (hg : Gl X x) (ha : AX X L Wx .r (e :: es) wr) (hv : bootBuiltins x = some (.builtin id) := by decide +kernel) (hn : x ≠ "__name__" := by decide) (hdb : (x == ("__debug__" : Str)) = false := by decide)
    (he : starEach (e :: es) X.env = (false, eval e X.env) :: starEach es X.env := by rfl) (hpl : (backTo pos (starEach es X.env)).any (·.1) = false := by rfl) : EX X L Wx .s (.Call (.Name x p) (e :: es) [] pos) (wBlt f okc wr) := by
  obtain ⟨r, c1, c2⟩ := c
  obtain ⟨t, a1, a2⟩ := ha
  exact ⟨_, pe_callB c1 hg hm hv a1 hn hdb he hpl, rx_blt a2 c2⟩
theorem ex_ty {x : Str} {T : String} {f : FB} {okc : List D → Prop} (c : CalB X L.C (.type T) f okc) (hm : X.mg x = none) (hg : Gl X x) (ha : AX X L Wx .r (e :: es) wr) (hv : bootBuiltins x = some (.type T) := by decide +kernel) (hn : x ≠ "__name__" := by decide) (hdb : (x == ("__debug__" : Str)) = false := by decide)
    (he : starEach (e :: es) X.env = (false, eval e X.env) :: starEach es X.env := by rfl) (hpl : (backTo pos (starEach es X.env)).any (·.1) = false := by rfl) : EX X L Wx .s (.Call (.Name x p) (e :: es) [] pos) (wBlt f okc wr) := by
  obtain ⟨r, c1, c2⟩ := c
  obtain ⟨t, a1, a2⟩ := ha
  exact ⟨_, pe_callTy c1 hg hm hv a1 hn hdb he hpl, rx_blt a2 c2⟩
def kAny : List D → Prop := fun _ => True
theorem pair1 {M : Wd} {vs : List V} {d : D} (r : Paired (Re C .r M) vs [d]) : ∃ v, vs = [v] ∧ Re C .r M v d := by
  cases r with
  | cons h t =>
    cases t
    exact ⟨_, rfl, h⟩
theorem pair2 {M : Wd} {vs : List V} {d1 d2 : D} (r : Paired (Re C .r M) vs [d1, d2]) : ∃ v u, vs = [v, u] ∧ Re C .r M v d1 ∧ Re C .r M u d2 := by
  cases r with
  | cons h t =>
    cases t with
    | cons h2 t =>
      cases t
      exact ⟨_, _, rfl, h, h2⟩
def fLen : FB
  | [.py (.list ds)] => some (.py (.int ds.length))
  | [.py (.tuple ds)] => some (.py (.int ds.length))
  | [.py (.str z)] => some (.py (.int z.length))
  | _ => none
def kLen : List D → Prop
  | [.py (.str z)] => z.length ≤ sizeLine
  | _ => True
theorem b_len : CalB X C (.builtin "len") fLen kLen := by
  refine ⟨_, call_len_seq.or call_len_str, fun M vs ds d Q ok r hf hk q => ?_⟩
  unfold fLen at hf
  split at hf
  · cases hf
    obtain ⟨v, rfl, r0⟩ := pair1 r
    clear r
    have r := r0
    obtain ⟨a, xs, e1, h1, r1⟩ := Re.list ok r
    refine .inl ⟨a, xs, by rw [e1], .inl (.of h1), ?_⟩
    rw [r1.len]
    exact q M _ (.refl ok) (Dr.int _)
  · cases hf
    obtain ⟨v, rfl, r0⟩ := pair1 r
    clear r
    have r := r0
    obtain ⟨a, xs, e1, h1, r1⟩ := Re.tuple ok r
    refine .inl ⟨a, xs, by rw [e1], .inr (.of h1), ?_⟩
    rw [r1.len]
    exact q M _ (.refl ok) (Dr.int _)
  · cases hf
    obtain ⟨v, rfl, r0⟩ := pair1 r
    clear r
    have r := r0
    exact .inr ⟨_, by rw [r.str], hk, q M _ (.refl ok) (Dr.int _)⟩
  · cases hf
def fList : FB
  | [.py (.list ds)] => some (.py (.list ds))
  | [.py (.tuple ds)] => some (.py (.list ds))
  | _ => none
theorem b_list : CalB X C (.type "list") fList kAny := by
  refine ⟨_, call_list_of, fun M vs ds d Q ok r hf hk q => ?_⟩
  unfold fList at hf
  split at hf
  · cases hf
    obtain ⟨v, rfl, r0⟩ := pair1 r
    clear r
    have r := r0
    obtain ⟨a, xs, e1, h1, r1⟩ := Re.list ok r
    exact ⟨a, xs, by rw [e1], .inl (.of h1), new_lst ok r1 q⟩
  · cases hf
    obtain ⟨v, rfl, r0⟩ := pair1 r
    clear r
    have r := r0
    obtain ⟨a, xs, e1, h1, r1⟩ := Re.tuple ok r
    exact ⟨a, xs, by rw [e1], .inr (.of h1), new_lst ok r1 q⟩
  · cases hf
def fTuple : FB
  | [.py (.list ds)] => some (.py (.tuple ds))
  | [.py (.tuple ds)] => some (.py (.tuple ds))
  | _ => none
theorem b_tuple : CalB X C (.type "tuple") fTuple kAny := by
  refine ⟨_, call_tuple_of, fun M vs ds d Q ok r hf hk q => ?_⟩
  unfold fTuple at hf
  split at hf
  · cases hf
    obtain ⟨v, rfl, r0⟩ := pair1 r
    clear r
    have r := r0
    obtain ⟨a, xs, e1, h1, r1⟩ := Re.list ok r
    exact ⟨a, xs, by rw [e1], .inl ⟨.of h1, new_tup ok r1 q⟩⟩
  · cases hf
    obtain ⟨v, rfl, r0⟩ := pair1 r
    clear r
    have r := r0
    obtain ⟨a, xs, e1, h1, r1⟩ := Re.tuple ok r
    refine ⟨a, xs, by rw [e1], .inr ⟨.of h1, ?_⟩⟩
    rcases r with r | ⟨_, _, _, _, e2, _⟩
    · rw [← e1]
      exact q M v (.refl ok) r
    · cases e2
  · cases hf
/-- the ints of data -/
def intsOf : List PyData → Option (List Int)
  | [] => some []
  | .int i :: r => (intsOf r).map (i :: ·)
  | _ :: _ => none
theorem intsOf_eq : ∀ {ds : List PyData} {ns : List Int}, intsOf ds = some ns → ds = ns.map .int
  | [], _, h => by cases h; rfl
  | .int i :: r, ns, h => by
    have h' : (intsOf r).map (i :: ·) = some ns := h
    cases e : intsOf r with
    | none => rw [e] at h'; cases h'
    | some es =>
      rw [e] at h'
      have h2 : i :: es = ns := Option.some.inj h'
      subst h2
      rw [List.map_cons, ← intsOf_eq e]
  | .none :: _, _, h => by cases h
  | .bool _ :: _, _, h => by cases h
  | .str _ :: _, _, h => by cases h
  | .list _ :: _, _, h => by cases h
  | .tuple _ :: _, _, h => by cases h
  | .dict _ :: _, _, h => by cases h
theorem intsOf_map : ∀ ns : List Int, intsOf (ns.map .int) = some ns
  | [] => rfl
  | n :: ns => by
    show (intsOf (ns.map .int)).map (n :: ·) = _
    rw [intsOf_map ns]
    rfl
theorem re_ints {M : Wd} {v : V} {ds : List PyData} {ns : List Int} (ok : M.Ok) (r : Re C .r M v (.py (.list ds))) (h : intsOf ds = some ns) : ∃ a, v = .ref a ∧ M.H a = some (.lst (ns.map V.int)) := by
  cases intsOf_eq h
  obtain ⟨a, xs, e1, h1, r1⟩ := Re.list ok r
  cases r1.ints
  exact ⟨a, e1, h1⟩
def fSum : FB
  | [.py (.list ds)] => (intsOf ds).map fun ns => .py (.int ns.sum)
  | _ => none
theorem b_sum (hc : X.calm = true) : CalB X C (.builtin "sum") fSum kAny := by
  refine ⟨_, cr_sum hc, fun M vs ds d Q ok r hf hk q => ?_⟩
  unfold fSum at hf
  split at hf
  · rename_i ds'
    cases h : intsOf ds' with
    | none => rw [h] at hf; cases hf
    | some ns =>
      rw [h] at hf
      cases hf
      obtain ⟨v, rfl, r0⟩ := pair1 r
      clear r
      have r := r0
      obtain ⟨a, rfl, h1⟩ := re_ints ok r h
      exact ⟨a, ns, rfl, .of h1, q M _ (.refl ok) (Dr.int _)⟩
  · cases hf
def maxI : List Int → Int
  | [] => 0
  | n :: ns => ns.foldl max n
def minI : List Int → Int
  | [] => 0
  | n :: ns => ns.foldl min n
theorem foldl_max : ∀ (ns : List Int) (n : Int), (ns.foldl max n = n ∨ ns.foldl max n ∈ ns) ∧ n ≤ ns.foldl max n ∧ ∀ y ∈ ns, y ≤ ns.foldl max n
  | [], n => ⟨.inl rfl, Int.le_refl _, fun _ h => by cases h⟩
  | x :: ns, n => by
    obtain ⟨h1, h2, h3⟩ := foldl_max ns (max n x)
    rw [List.foldl_cons]
    refine ⟨?_, by omega, fun y hy => ?_⟩
    · rcases h1 with h1 | h1
      · rw [h1]
        rcases Int.le_total n x with c | c
        · exact .inr (by rw [Int.max_eq_right c]; exact List.mem_cons_self)
        · exact .inl (Int.max_eq_left c)
      · exact .inr (List.mem_cons_of_mem _ h1)
    · rcases List.mem_cons.mp hy with rfl | hy
      · omega
      · exact h3 y hy
theorem foldl_min : ∀ (ns : List Int) (n : Int), (ns.foldl min n = n ∨ ns.foldl min n ∈ ns) ∧ ns.foldl min n ≤ n ∧ ∀ y ∈ ns, ns.foldl min n ≤ y
  | [], n => ⟨.inl rfl, Int.le_refl _, fun _ h => by cases h⟩
  | x :: ns, n => by
    obtain ⟨h1, h2, h3⟩ := foldl_min ns (min n x)
    rw [List.foldl_cons]
    refine ⟨?_, by omega, fun y hy => ?_⟩
    · rcases h1 with h1 | h1
      · rw [h1]
        rcases Int.le_total n x with c | c
        · exact .inl (Int.min_eq_left c)
        · exact .inr (by rw [Int.min_eq_right c]; exact List.mem_cons_self)
      · exact .inr (List.mem_cons_of_mem _ h1)
    · rcases List.mem_cons.mp hy with rfl | hy
      · omega
      · exact h3 y hy
theorem maxI_is {ns : List Int} {m : Int} (h : m ∈ ns) (hm : ∀ y ∈ ns, y ≤ m) : m = maxI ns := by
  cases ns with
  | nil => cases h
  | cons n ns =>
    obtain ⟨h1, h2, h3⟩ := foldl_max ns n
    show m = ns.foldl max n
    have a : ns.foldl max n ≤ m := by
      rcases h1 with h1 | h1
      · rw [h1]
        exact hm n List.mem_cons_self
      · exact hm _ (List.mem_cons_of_mem _ h1)
    have b : m ≤ ns.foldl max n := by
      rcases List.mem_cons.mp h with rfl | h
      · exact h2
      · exact h3 m h
    omega
theorem minI_is {ns : List Int} {m : Int} (h : m ∈ ns) (hm : ∀ y ∈ ns, m ≤ y) : m = minI ns := by
  cases ns with
  | nil => cases h
  | cons n ns =>
    obtain ⟨h1, h2, h3⟩ := foldl_min ns n
    show m = ns.foldl min n
    have a : m ≤ ns.foldl min n := by
      rcases h1 with h1 | h1
      · rw [h1]
        exact hm n List.mem_cons_self
      · exact hm _ (List.mem_cons_of_mem _ h1)
    have b : ns.foldl min n ≤ m := by
      rcases List.mem_cons.mp h with rfl | h
      · exact h2
      · exact h3 m h
    omega
def fMax : FB
  | [.py (.list ds)] => (intsOf ds).map fun ns => .py (.int (maxI ns))
  | [.py (.int i), .py (.int j)] => some (.py (.int (if j > i then j else i)))
  | _ => none
def fMin : FB
  | [.py (.list ds)] => (intsOf ds).map fun ns => .py (.int (minI ns))
  | _ => none
def kNe : List D → Prop
  | [.py (.list ds)] => ds ≠ []
  | _ => True
theorem b_max (hc : X.calm = true) : CalB X C (.builtin "max") fMax kNe := by
  refine ⟨_, (cr_max hc).or (call_max2 hc), fun M vs ds d Q ok r hf hk q => ?_⟩
  unfold fMax at hf
  split at hf
  · rename_i ds'
    cases h : intsOf ds' with
    | none => rw [h] at hf; cases hf
    | some ns =>
      rw [h] at hf
      cases hf
      obtain ⟨v, rfl, r0⟩ := pair1 r
      clear r
      have r := r0
      obtain ⟨a, rfl, h1⟩ := re_ints ok r h
      have e := intsOf_eq h
      refine .inl ⟨a, ns, rfl, .of h1, ?_, fun m hm hy => ?_⟩
      · cases ns with
        | nil => exact absurd e hk
        | cons _ _ => exact Nat.succ_pos _
      · rw [maxI_is hm hy]
        exact q M _ (.refl ok) (Dr.int _)
  · cases hf
    obtain ⟨v, u, rfl, r1, r2⟩ := pair2 r
    exact .inr ⟨_, _, by rw [r1.int, r2.int], q M _ (.refl ok) (Dr.int _)⟩
  · cases hf
theorem b_min (hc : X.calm = true) : CalB X C (.builtin "min") fMin kNe := by
  refine ⟨_, cr_min hc, fun M vs ds d Q ok r hf hk q => ?_⟩
  unfold fMin at hf
  split at hf
  · rename_i ds'
    cases h : intsOf ds' with
    | none => rw [h] at hf; cases hf
    | some ns =>
      rw [h] at hf
      cases hf
      obtain ⟨v, rfl, r0⟩ := pair1 r
      clear r
      have r := r0
      obtain ⟨a, rfl, h1⟩ := re_ints ok r h
      have e := intsOf_eq h
      refine ⟨a, ns, rfl, .of h1, ?_, fun m hm hy => ?_⟩
      · cases ns with
        | nil => exact absurd e hk
        | cons _ _ => exact Nat.succ_pos _
      · rw [minI_is hm hy]
        exact q M _ (.refl ok) (Dr.int _)
  · cases hf
def blsOf : List PyData → Option (List Bool)
  | [] => some []
  | .bool i :: r => (blsOf r).map (i :: ·)
  | _ :: _ => none
theorem blsOf_eq : ∀ {ds : List PyData} {ns : List Bool}, blsOf ds = some ns → ds = ns.map .bool
  | [], _, h => by cases h; rfl
  | .bool i :: r, ns, h => by
    have h' : (blsOf r).map (i :: ·) = some ns := h
    cases e : blsOf r with
    | none => rw [e] at h'; cases h'
    | some es =>
      rw [e] at h'
      have h2 : i :: es = ns := Option.some.inj h'
      subst h2
      rw [List.map_cons, ← blsOf_eq e]
  | .none :: _, _, h => by cases h
  | .int _ :: _, _, h => by cases h
  | .str _ :: _, _, h => by cases h
  | .list _ :: _, _, h => by cases h
  | .tuple _ :: _, _, h => by cases h
  | .dict _ :: _, _, h => by cases h
theorem blsOf_map : ∀ ns : List Bool, blsOf (ns.map .bool) = some ns
  | [] => rfl
  | n :: ns => by
    show (blsOf (ns.map .bool)).map (n :: ·) = _
    rw [blsOf_map ns]
    rfl
def fAll : FB
  | [.py (.list ds)] => (blsOf ds).map fun bs => .py (.bool (bs.all id))
  | _ => none
theorem b_all (hc : X.calm = true) : CalB X C (.builtin "all") fAll kAny := by
  refine ⟨_, cr_all hc, fun M vs ds d Q ok r hf hk q => ?_⟩
  unfold fAll at hf
  split at hf
  · rename_i ds'
    cases h : blsOf ds' with
    | none => rw [h] at hf; cases hf
    | some ns =>
      rw [h] at hf
      cases hf
      obtain ⟨v, rfl, r0⟩ := pair1 r
      clear r
      have r := r0
      obtain ⟨a, xs, rfl, h1, r1⟩ := Re.list ok r
      cases blsOf_eq h
      cases r1.bls
      exact ⟨a, ns, rfl, .of h1, q M _ (.refl ok) (Dr.bl _)⟩
  · cases hf
/-- str of an int -/
def fStr : FB
  | [.py (.int i)] => some (.py (.str (toString i)))
  | _ => none
def kStr : List D → Prop
  | [.py (.int i)] => i.natAbs.log2 < 1920
  | _ => True
theorem b_str : CalB X C (.type "str") fStr kStr := by
  refine ⟨_, call_str_int, fun M vs ds d Q ok r hf hk q => ?_⟩
  unfold fStr at hf
  split at hf
  · cases hf
    obtain ⟨v, rfl, r0⟩ := pair1 r
    clear r
    have r := r0
    exact ⟨_, by rw [r.int], hk, q M _ (.refl ok) (Dr.str _)⟩
  · cases hf
/-- int of a text -/
def fInt : FB
  | [.py (.str z)] => (PySem.intText? z).map fun n => .py (.int n)
  | _ => none
def kInt : List D → Prop
  | [.py (.str z)] => z.length ≤ 640
  | _ => True
theorem b_int : CalB X C (.type "int") fInt kInt := by
  refine ⟨_, call_int_str, fun M vs ds d Q ok r hf hk q => ?_⟩
  unfold fInt at hf
  split at hf
  · rename_i z
    cases h : PySem.intText? z with
    | none => rw [h] at hf; cases hf
    | some n =>
      rw [h] at hf
      cases hf
      obtain ⟨v, rfl, r0⟩ := pair1 r
      clear r
      have r := r0
      exact ⟨z, n, by rw [r.str], h, hk, q M _ (.refl ok) (Dr.int _)⟩
  · cases hf
end RT
end
section
set_option Elab.async false
set_option linter.all false
set_option maxRecDepth 100000
set_option maxHeartbeats 2000000
namespace RT
open PySem PySem.Spec PyProof.Rows L2
variable {X : Cx} {L : Vl} {Wx : WX} {C : EK → Addr} {m m' : Md} {tg e a b c : Expr} {es : List Expr} {we wa wb wc : WE L.Θ} {wr : WA L.Θ} {pos p p2 : Pos}
/-! ### what is walked -/
def wItL {Θ : Type} (we : WE Θ) : WI Θ := fun ρ θ N Nx => we ρ θ (fun d θ' => ∃ ds, d = .py (.list ds) ∧ N (ds.map D.py) θ') Nx
def wItT {Θ : Type} (we : WE Θ) : WI Θ := fun ρ θ N Nx => we ρ θ (fun d θ' => ∃ ds, d = .py (.tuple ds) ∧ N (ds.map D.py) θ') Nx
theorem map_py_get {ds : List PyData} {i : Nat} {d : D} (h : (ds.map D.py)[i]? = some d) : ∃ y, d = .py y ∧ ds[i]? = some y := by
  rw [List.getElem?_map] at h
  cases q : ds[i]? with
  | none => rw [q] at h; cases h
  | some y => rw [q] at h; cases h; exact ⟨y, rfl, rfl⟩
theorem itl_ok {K : PySem.W.Frag} {G : Hp} {a : Addr} {xs : List V} {ds : List PyData} (h : G a = some (.lst xs)) (r : DrAll G xs ds) : ItD C (Itl K a) G (ds.map D.py) := by
  intro M ok sg
  have hs : SqL K M.H a xs := .of (ok.g _ _ (sg _ _ h))
  refine ⟨fun i d hd => ?_, fun i hi => ⟨xs, hs, by rw [r.len]; simpa using hi⟩⟩
  obtain ⟨y, rfl, hy⟩ := map_py_get hd
  obtain ⟨v, hv, rv⟩ := r.get hy
  refine ⟨⟨xs, v, hs, hv⟩, fun x H' hq => ?_⟩
  obtain ⟨rfl, f⟩ := hq
  have q := f _ hs
  rw [hv] at q
  cases q
  exact ⟨M, rfl, .refl ok, rv.mono sg⟩
theorem itt_ok {K : PySem.W.Frag} {G : Hp} {a : Addr} {xs : List V} {ds : List PyData} (h : G a = some (.tup xs)) (r : DrAll G xs ds) : ItD C (Itt K a) G (ds.map D.py) := by
  intro M ok sg
  have hs : SqT K M.H a xs := .of (ok.g _ _ (sg _ _ h))
  refine ⟨fun i d hd => ?_, fun i hi => ⟨xs, hs, by rw [r.len]; simpa using hi⟩⟩
  obtain ⟨y, rfl, hy⟩ := map_py_get hd
  obtain ⟨v, hv, rv⟩ := r.get hy
  refine ⟨⟨xs, v, hs, hv⟩, fun x H' hq => ?_⟩
  obtain ⟨rfl, f⟩ := hq
  have q := f _ hs
  rw [hv] at q
  cases q
  exact ⟨M, rfl, .refl ok, rv.mono sg⟩
theorem ix_list (h : EX X L Wx .s e we) : IX X L Wx tg e (wItL we) := by
  obtain ⟨t, a1, a2⟩ := h
  refine ⟨_, pi_list a1, fun H0 M σ ρ θ R N Nx rep j hw hN hX => ?_⟩
  refine a2 H0 M σ ρ θ _ _ Nx rep j hw (fun d θ' M' v e' j' r n => ?_) hX
  obtain ⟨ds, rfl, n⟩ := n
  cases (show Dr M'.G v (.list ds) from r) with
  | lst h dr => exact ⟨_, rfl, ⟨_, .of (e'.ok.g _ _ h)⟩, hN _ θ' M' _ e' j' (itl_ok h dr) n⟩
theorem ix_tuple (h : EX X L Wx .s e we) : IX X L Wx tg e (wItT we) := by
  obtain ⟨t, a1, a2⟩ := h
  refine ⟨_, pi_tup a1, fun H0 M σ ρ θ R N Nx rep j hw hN hX => ?_⟩
  refine a2 H0 M σ ρ θ _ _ Nx rep j hw (fun d θ' M' v e' j' r n => ?_) hX
  obtain ⟨ds, rfl, n⟩ := n
  cases (show Dr M'.G v (.tuple ds) from r) with
  | tup h dr => exact ⟨_, rfl, ⟨_, .of (e'.ok.g _ _ h)⟩, hN _ θ' M' _ e' j' (itt_ok h dr) n⟩
def wItS {Θ : Type} (we : WE Θ) : WI Θ := fun ρ θ N Nx => we ρ θ (fun d θ' => ∃ z, d = .py (.str z) ∧ N (z.cps.toList.map fun c => D.py (.str ⟨#[c]⟩)) θ') Nx
theorem its_ok {G : Hp} {z : Str} : ItD C (Its z) G (z.cps.toList.map fun c => D.py (.str ⟨#[c]⟩)) := by
  intro M ok sg
  refine ⟨fun i d hd => ?_, fun i hi => (show z.cps.size ≤ i from by simpa using hi)⟩
  rw [List.getElem?_map] at hd
  cases q : z.cps.toList[i]? with
  | none => rw [q] at hd; cases hd
  | some c =>
    rw [q] at hd
    cases hd
    have q' : z.cps[i]? = some c := by rw [← Array.getElem?_toList]; exact q
    refine ⟨(Array.getElem?_eq_some_iff.mp q').1, fun x H' hq => ?_⟩
    obtain ⟨rfl, c', h1, rfl⟩ := hq
    rw [q'] at h1
    cases h1
    exact ⟨M, rfl, .refl ok, Dr.str _⟩
theorem ix_str (h : EX X L Wx m e we) : IX X L Wx tg e (wItS we) := by
  obtain ⟨t, a1, a2⟩ := h
  refine ⟨_, pi_str a1, fun H0 M σ ρ θ R N Nx rep j hw hN hX => ?_⟩
  refine a2 H0 M σ ρ θ _ _ Nx rep j hw (fun d θ' M' v e' j' r n => ?_) hX
  obtain ⟨z, rfl, n⟩ := n
  exact ⟨_, r.r.str, hN _ θ' M' _ e' j' its_ok n⟩
def rgD (lo : Int) (n : Nat) : List PyData := (List.range n).map fun i => .int (lo + (i : Nat))
theorem itr_ok {G : Hp} {lo : Int} {n : Nat} : ItD C (Itr lo n) G ((rgD lo n).map D.py) := by
  intro M ok sg
  refine ⟨fun i d hd => ?_, fun i hi => ?_⟩
  · obtain ⟨y, rfl, hy⟩ := map_py_get hd
    unfold rgD at hy
    rw [List.getElem?_map] at hy
    by_cases hi : i < n
    · rw [List.getElem?_range hi] at hy
      cases hy
      refine ⟨hi, fun x H' q => ?_⟩
      obtain ⟨rfl, rfl⟩ := q
      exact ⟨M, rfl, .refl ok, Dr.int _⟩
    · rw [List.getElem?_eq_none (by simpa using hi)] at hy
      cases hy
  · have : n ≤ i := by
      unfold rgD at hi
      simpa using hi
    exact this
def wRg1 {Θ : Type} (wr : WA Θ) : WI Θ := fun ρ θ N Nx => wr ρ θ (fun ds θ' => ∃ j, ds = [.py (.int j)] ∧ (-(2 ^ 62) ≤ j ∧ j < 2 ^ 62) ∧ N ((rgD 0 j.toNat).map D.py) θ') Nx
def wRg2 {Θ : Type} (wr : WA Θ) : WI Θ := fun ρ θ N Nx => wr ρ θ (fun ds θ' => ∃ i j, ds = [.py (.int i), .py (.int j)] ∧ (-(2 ^ 62) ≤ i ∧ i < 2 ^ 62 ∧ -(2 ^ 62) ≤ j ∧ j < 2 ^ 62) ∧ N ((rgD i (j - i).toNat).map D.py) θ') Nx
theorem ix_range1 (hm : X.mg "range" = none) (hg : Gl X "range") (h : AX X L Wx .r [a] wr) (hs : starEach [a] X.env = [(false, eval a X.env)] := by rfl) : IX X L Wx tg (.Call (.Name "range" p) [a] [] pos) (wRg1 wr) := by
  obtain ⟨t, a1, a2⟩ := h
  refine ⟨_, pi_range1 hg hm a1 hs, fun H0 M σ ρ θ R N Nx rep j hw hN hX => ?_⟩
  refine a2 H0 M σ ρ θ _ _ Nx rep j hw (fun ds θ' M' vs e' j' r n => ?_) hX
  obtain ⟨k, rfl, hb, n⟩ := n
  obtain ⟨v, rfl, r⟩ := pair1 r
  exact ⟨k, by rw [Re.int ‹Re L.C .r M' v _›], hb.1, hb.2, hN _ θ' M' _ e' j' itr_ok n⟩
theorem ix_range2 (hm : X.mg "range" = none) (hg : Gl X "range") (h : AX X L Wx .r [a, b] wr) (hs : starEach [a, b] X.env = [(false, eval a X.env), (false, eval b X.env)] := by rfl) (hs2 : starEach [b] X.env = [(false, eval b X.env)] := by rfl) : IX X L Wx tg (.Call (.Name "range" p) [a, b] [] pos) (wRg2 wr) := by
  obtain ⟨t, a1, a2⟩ := h
  refine ⟨_, pi_range2 hg hm a1 hs hs2, fun H0 M σ ρ θ R N Nx rep j hw hN hX => ?_⟩
  refine a2 H0 M σ ρ θ _ _ Nx rep j hw (fun ds θ' M' vs e' j' r n => ?_) hX
  obtain ⟨i, k, rfl, hb, n⟩ := n
  obtain ⟨v, u, rfl, r1, r2⟩ := pair2 r
  exact ⟨i, k, by rw [r1.int, r2.int], hb, hN _ θ' M' _ e' j' itr_ok n⟩
/-- enumerate(xs), zip(xs, ys) to a tuple of names -/
def enD : Nat → List PyData → List PyData
  | _, [] => []
  | i, d :: ds => .tuple [.int (i : Nat), d] :: enD (i + 1) ds
theorem enD_get : ∀ {ds : List PyData} {k i : Nat} {y : PyData}, (enD k ds)[i]? = some y → ∃ d, ds[i]? = some d ∧ y = .tuple [.int ((k + i : Nat)), d]
  | [], _, _, _, h => by simp [enD] at h
  | d :: ds, k, 0, y, h => by
    simp [enD] at h
    exact ⟨d, rfl, h.symm⟩
  | d :: ds, k, i + 1, y, h => by
    obtain ⟨e, h1, h2⟩ := enD_get (ds := ds) (k := k + 1) (i := i) (by simpa [enD] using h)
    refine ⟨e, by simpa using h1, ?_⟩
    rw [h2, show k + 1 + i = k + (i + 1) by omega]
theorem enD_len : ∀ (k : Nat) (ds : List PyData), (enD k ds).length = ds.length
  | _, [] => rfl
  | k, d :: ds => congrArg Nat.succ (enD_len (k + 1) ds)
theorem ite_ok {K : PySem.W.Frag} {G : Hp} {a : Addr} {xs : List V} {ds : List PyData} (h : G a = some (.lst xs)) (r : DrAll G xs ds) : ItD C (Ite K a) G ((enD 0 ds).map D.py) := by
  intro M ok sg
  have hs : SqL K M.H a xs := .of (ok.g _ _ (sg _ _ h))
  refine ⟨fun i d hd => ?_, fun i hi => ⟨xs, hs, by rw [r.len]; simpa [enD_len] using hi⟩⟩
  obtain ⟨y, rfl, hy⟩ := map_py_get hd
  obtain ⟨z, hz, rfl⟩ := enD_get hy
  obtain ⟨v, hv, rv⟩ := r.get hz
  refine ⟨⟨xs, v, hs, hv⟩, fun x H' hq => ?_⟩
  obtain ⟨T, u, rfl, nT, rfl, f⟩ := hq
  have q := f _ hs
  rw [hv] at q
  cases q
  have ex := Ext0.add ok (o := .tup [.int (i : Nat), v]) nT
  refine ⟨M.add T (.tup [.int (i : Nat), v]), rfl, ex, Dr.tup add_at (.cons ?_ (.cons ((rv.mono sg).mono ex.1.g) .nil))⟩
  rw [Nat.zero_add]
  exact .int _
def wEnum {Θ : Type} (wr : WA Θ) : WI Θ := fun ρ θ N Nx => wr ρ θ (fun xs θ' => ∃ ds, xs = [.py (.list ds)] ∧ N ((enD 0 ds).map D.py) θ') Nx
theorem ix_enum {elts : List Expr} {kk : Nat} {tpos : Pos} (hm : X.mg "enumerate" = none) (hg : Gl X "enumerate") (h : AX X L Wx .s [e] wr) (hs : starEach [e] X.env = [(false, eval e X.env)] := by rfl) : IX X L Wx (.Tuple elts kk tpos) (.Call (.Name "enumerate" p) [e] [] pos) (wEnum wr) := by
  obtain ⟨t, a1, a2⟩ := h
  refine ⟨_, pi_enum hg hm a1 hs, fun H0 M σ ρ θ R N Nx rep j hw hN hX => ?_⟩
  refine a2 H0 M σ ρ θ _ _ Nx rep j hw (fun xs θ' M' vs e' j' r n => ?_) hX
  obtain ⟨ds, rfl, n⟩ := n
  cases r with
  | cons h1 t =>
    cases t
    cases (show Dr M'.G _ (.list ds) from h1) with
    | lst h dr => exact ⟨_, _, rfl, .of (e'.ok.g _ _ h), hN _ θ' M' _ e' j' (ite_ok h dr) n⟩
def zipD : List PyData → List PyData → List PyData
  | d :: ds, e :: es => .tuple [d, e] :: zipD ds es
  | _, _ => []
theorem zipD_get : ∀ {ds es : List PyData} {i : Nat} {y : PyData}, (zipD ds es)[i]? = some y → ∃ d e, ds[i]? = some d ∧ es[i]? = some e ∧ y = .tuple [d, e]
  | [], _, _, _, h => by simp [zipD] at h
  | _ :: _, [], _, _, h => by simp [zipD] at h
  | d :: ds, e :: es, 0, y, h => by
    simp [zipD] at h
    exact ⟨d, e, rfl, rfl, h.symm⟩
  | d :: ds, e :: es, i + 1, y, h => by
    obtain ⟨d', e', h1, h2, h3⟩ := zipD_get (ds := ds) (es := es) (i := i) (by simpa [zipD] using h)
    exact ⟨d', e', by simpa using h1, by simpa using h2, h3⟩
theorem zipD_len : ∀ (ds es : List PyData) (i : Nat), (zipD ds es).length ≤ i → ds.length ≤ i ∨ es.length ≤ i
  | [], _, _, _ => .inl (Nat.zero_le _)
  | _ :: _, [], _, _ => .inr (Nat.zero_le _)
  | d :: ds, e :: es, 0, h => by simp [zipD] at h
  | d :: ds, e :: es, i + 1, h => by
    have q := zipD_len ds es i (by simpa [zipD] using h)
    rcases q with q | q
    · exact .inl (Nat.succ_le_succ q)
    · exact .inr (Nat.succ_le_succ q)
theorem itz_ok {K : PySem.W.Frag} {G : Hp} {a b : Addr} {xs ys : List V} {ds es : List PyData} (h : G a = some (.lst xs)) (r : DrAll G xs ds) (h2 : G b = some (.lst ys)) (r2 : DrAll G ys es) : ItD C (Itz K a b) G ((zipD ds es).map D.py) := by
  intro M ok sg
  have hs : SqL K M.H a xs := .of (ok.g _ _ (sg _ _ h))
  have hs2 : SqL K M.H b ys := .of (ok.g _ _ (sg _ _ h2))
  refine ⟨fun i d hd => ?_, fun i hi => ⟨xs, ys, hs, hs2, ?_⟩⟩
  · obtain ⟨y, rfl, hy⟩ := map_py_get hd
    obtain ⟨d1, e1, h3, h4, rfl⟩ := zipD_get hy
    obtain ⟨v, hv, rv⟩ := r.get h3
    obtain ⟨u, hu, ru⟩ := r2.get h4
    refine ⟨⟨xs, ys, v, u, hs, hs2, hv, hu⟩, fun x H' hq => ?_⟩
    obtain ⟨T, v', u', rfl, nT, rfl, f1, f2⟩ := hq
    have q := f1 _ hs
    rw [hv] at q
    cases q
    have q := f2 _ hs2
    rw [hu] at q
    cases q
    have ex := Ext0.add ok (o := .tup [v, u]) nT
    exact ⟨M.add T (.tup [v, u]), rfl, ex, Dr.tup add_at (.cons ((rv.mono sg).mono ex.1.g) (.cons ((ru.mono sg).mono ex.1.g) .nil))⟩
  · rw [r.len, r2.len]
    exact zipD_len ds es i (by simpa using hi)
def wZip {Θ : Type} (wr : WA Θ) : WI Θ := fun ρ θ N Nx => wr ρ θ (fun xs θ' => ∃ ds es, xs = [.py (.list ds), .py (.list es)] ∧ N ((zipD ds es).map D.py) θ') Nx
theorem ix_zip {elts : List Expr} {kk : Nat} {tpos : Pos} (hm : X.mg "zip" = none) (hg : Gl X "zip") (h : AX X L Wx .s [a, b] wr) (hs : starEach [a, b] X.env = (false, eval a X.env) :: starEach [b] X.env := by rfl) (hpl : (backTo pos (starEach [b] X.env)).any (·.1) = false := by rfl) : IX X L Wx (.Tuple elts kk tpos) (.Call (.Name "zip" p) [a, b] [] pos) (wZip wr) := by
  obtain ⟨t, a1, a2⟩ := h
  refine ⟨_, pi_zip hg hm a1 hs hpl, fun H0 M σ ρ θ R N Nx rep j hw hN hX => ?_⟩
  refine a2 H0 M σ ρ θ _ _ Nx rep j hw (fun xs θ' M' vs e' j' r n => ?_) hX
  obtain ⟨ds, es, rfl, n⟩ := n
  cases r with
  | cons h1 t =>
    cases t with
    | cons h2 t =>
      cases t
      cases (show Dr M'.G _ (.list ds) from h1) with
      | lst g1 d1 =>
        cases (show Dr M'.G _ (.list es) from h2) with
        | lst g2 d2 => exact ⟨_, _, _, _, rfl, .of (e'.ok.g _ _ g1), .of (e'.ok.g _ _ g2), hN _ θ' M' _ e' j' (itz_ok g1 d1 g2 d2) n⟩
/-! ### list(range(..)) -/
def rgC (i c : Int) (n : Nat) : List Int := (List.range n).map fun k => i + (k : Nat) * c
theorem small_list {n : Nat} {f : Nat → Int} {acc : Array Value} (h : ItemsOf (fun i v => ∃ t, v = .int (f i) t) acc n) : Vals (((List.range n).map f).map V.int) acc.toList := by
  have hl : acc.toList.length = n := by rw [Array.length_toList]; exact h.1
  rw [List.map_map]
  have q := vals_of_get acc.toList (V.int ∘ f) fun j u hj => by
    obtain ⟨t, rfl⟩ := h.2 j u (by rw [← hj, Array.getElem?_toList])
    exact ⟨t, rfl⟩
  rw [hl] at q
  exact q
def tLR (t : TA) : TE := fun σ H Q => t σ H fun vs H1 => ∃ i j c n, vs = [.int i, .int j, .int c] ∧ RgC i j c n ∧ n ≤ 2 ^ 24 ∧ ∀ q, H1 q = none → Q (.ref q) (upd H1 q (.lst ((rgC i c n).map V.int)))
theorem pe_lr {t : TA} (hc : X.calm = true) (hg : Gl X "list") (hm : X.mg "list" = none) (hg2 : Gl X "range") (hm2 : X.mg "range" = none) (ha : PA X [a, b, c] t) (hs : starEach [a, b, c] X.env = (false, eval a X.env) :: starEach [b, c] X.env) (hpl : (backTo p2 (starEach [b, c] X.env)).any (·.1) = false)
    {p3 : Pos} (na : starEach [.Call (.Name "range" p3) [a, b, c] [] p2] X.env = (false, eval (.Call (.Name "range" p3) [a, b, c] [] p2) X.env) :: starEach [] X.env) : PE X (.Call (.Name "list" p) [.Call (.Name "range" p3) [a, b, c] [] p2] [] pos) (tLR t) := by
  refine ⟨fun pins s σ H Q I h => ?_⟩
  refine Call_ (ld_blt I hg hm boot_list (PyProof.Rows.callWith_type1 (args_cons (Call_ (ld_blt I hg2 hm2 boot_range (PyProof.Rows.callWith_type1 (thn (ha.run p2 pins s σ H _ I h) fun us s1 z => ?_) hs hpl))) na) na))
  obtain ⟨vs, H1, I1, r1, i, j, k, n, rfl, ⟨k0, k1, k2, k3⟩, hn, q⟩ := z
  cases r1 with
  | cons ra rr =>
    cases rr with
    | cons rb rr =>
      cases rr with
      | cons rc rr =>
        cases rr
        obtain ⟨t1, rfl⟩ := ra
        obtain ⟨t2, rfl⟩ := rb
        obtain ⟨t3, rfl⟩ := rc
        refine call_range_3 k0 (args_nil ?_) (.inl (PyProof.noPylong_small k1))
        have I2 : Inv X pins σ H1 { s1 with heap := s1.heap.push { cls := .type "range", data := .fields #[.int i t1, .int j t2, .int k t3] } } := I1.kept (t' := s1.toks) fun b o z => Heap.get?_push_of_some _ z
        refine call_list_range (n := n) (I2.ok.hd hc) (IsRange.new ..) k2 k3 hn fun h' tk acc c' hk e' hi => ?_
        have hv := small_list hi
        refine ⟨.ref (s1.heap.push { cls := .type "range", data := .fields #[.int i t1, .int j t2, .int k t3] }).objs.size, _, I2.laid (o := .lst ((rgC i k n).map V.int)) hk (Nat.le_refl _) ⟨?_, acc.toList, c', hv, ?_⟩, rfl, q _ (I2.hok.fresh (Nat.le_refl _))⟩
        · rw [List.length_map, rgC, List.length_map, List.length_range, sizeLine_eq]
          omega
        · rw [Array.toArray_toList]
          exact e'
def wLR {Θ : Type} (wr : WA Θ) : WE Θ := fun ρ θ N Nx => wr ρ θ (fun ds θ' => ∃ i j c n, ds = [.py (.int i), .py (.int j), .py (.int c)] ∧ RgC i j c n ∧ n ≤ 2 ^ 24 ∧ N (.py (.list ((rgC i c n).map .int))) θ') Nx
theorem ex_lr {p3 : Pos} (hc : X.calm = true) (hm : X.mg "list" = none) (hm2 : X.mg "range" = none) (hg : Gl X "list") (hg2 : Gl X "range") (ha : AX X L Wx .r [a, b, c] wr) (hs : starEach [a, b, c] X.env = (false, eval a X.env) :: starEach [b, c] X.env := by rfl) (hpl : (backTo p2 (starEach [b, c] X.env)).any (·.1) = false := by rfl)
    (na : starEach [.Call (.Name "range" p3) [a, b, c] [] p2] X.env = (false, eval (.Call (.Name "range" p3) [a, b, c] [] p2) X.env) :: starEach [] X.env := by rfl) : EX X L Wx .s (.Call (.Name "list" p) [.Call (.Name "range" p3) [a, b, c] [] p2] [] pos) (wLR wr) := by
  obtain ⟨t, a1, a2⟩ := ha
  refine ⟨_, pe_lr hc hg hm hg2 hm2 a1 hs hpl na, fun H0 M σ ρ θ Q N Nx rep j hw hN hX => ?_⟩
  refine a2 H0 M σ ρ θ _ _ Nx rep j hw (fun ds θ1 M1 vs e1 j1 r1 n1 => ?_) hX
  obtain ⟨i, k, c, n, rfl, hr, hn, nn⟩ := n1
  cases r1 with
  | cons h1 t =>
    cases t with
    | cons h2 t =>
      cases t with
      | cons h3 t =>
        cases t
        refine ⟨i, k, c, n, by rw [h1.int, h2.int, h3.int], hr, hn, new_lst (C := L.C) e1.ok (.of_ints _) fun M' v e r => hN (.py (.list ((rgC i c n).map .int))) θ1 M' v (e1.trans e.1) (L.ext0 e j1) r nn⟩
/-- list(range(a, b)) -/
def wLR2 {Θ : Type} (wa wb : WE Θ) : WE Θ := fun ρ θ N Nx => wa ρ θ (fun x θ1 => wb ρ θ1 (fun y θ2 => ∃ i j, x = .py (.int i) ∧ y = .py (.int j) ∧ RgOk i j ∧ N (.py (.list (rgD i (j - i).toNat))) θ2) Nx) Nx
theorem rgV_dr {G : Hp} (i j : Int) : DrAll G (rgV i j) (rgD i (j - i).toNat) := by
  unfold rgV rgD
  have h : ∀ l : List Nat, DrAll G (l.map fun k => V.int (i + (k : Nat))) (l.map fun k => PyData.int (i + (k : Nat))) := by
    intro l
    induction l with
    | nil => exact .nil
    | cons k r ih => exact .cons (.int _) ih
  exact h _
theorem ex_lr2 {p3 : Pos} (hc : X.calm = true) (hm : X.mg "list" = none) (hm2 : X.mg "range" = none) (hg : Gl X "list") (hg2 : Gl X "range") (ha : EX X L Wx m a wa) (hb : EX X L Wx m' b wb) (na : starEach [a, b] X.env = (false, eval a X.env) :: starEach [b] X.env := by rfl)
    (nb : starEach [b] X.env = (false, eval b X.env) :: starEach [] X.env := by rfl) (hp : (backTo p2 (starEach [b] X.env)).any (·.1) = false := by rfl) (nn : starEach [.Call (.Name "range" p3) [a, b] [] p2] X.env = (false, eval (.Call (.Name "range" p3) [a, b] [] p2) X.env) :: starEach [] X.env := by rfl) :
    EX X L Wx .s (.Call (.Name "list" p) [.Call (.Name "range" p3) [a, b] [] p2] [] pos) (wLR2 wa wb) := by
  obtain ⟨t, a1, a2⟩ := ha
  obtain ⟨u, b1, b2⟩ := hb
  refine ⟨_, pe_listRg hc hg hm (prg_2 hg2 hm2 a1 b1 na nb hp) nn, fun H0 M σ ρ θ Q N Nx rep j hw hN hX => ?_⟩
  refine a2 H0 M σ ρ θ _ _ Nx rep j hw (fun x θ1 M1 v1 e1 j1 r1 n1 => ?_) hX
  refine b2 H0 M1 σ ρ θ1 _ _ Nx (rep.ext e1) j1 n1 (fun y θ2 M2 v2 e2 j2 r2 n2 => ?_) (fun k θ' M' e j n => hX k θ' M' (e1.trans e) j n)
  obtain ⟨i, k, rfl, rfl, hr, nn⟩ := n2
  exact ⟨i, k, (r1.ext e2).r.int, r2.r.int, hr, new_lst (C := L.C) e2.ok (rgV_dr i k) fun M' v e r => hN (.py (.list (rgD i (k - i).toNat))) θ2 M' v (e1.trans (e2.trans e.1)) (L.ext0 e j2) r nn⟩
/-! ### readings that do not hang on the context -/
abbrev WF : WX := fun _ _ _ _ => False
def tOf (L : Vl) (Wx : WX) (m : Md) (w : WE L.Θ) : TE := fun σ H Q => ∃ (H0 : Hp) (M : Wd) (ρ : DS) (θ : L.Θ) (N : D → L.Θ → Prop) (Nx : EK → L.Θ → Prop), M.H = H ∧ Rep L.C H0 M σ ρ ∧ L.at θ M ∧ w ρ θ N Nx ∧
  (∀ d θ' M' v, Ext M M' → L.at θ' M' → Re L.C m M' v d → N d θ' → Q v M'.H) ∧ ∀ k θ' M', Ext M M' → L.at θ' M' → Nx k θ' → Wx (.ref (L.C k)) none σ M'.H
theorem EX.pe (h : EX X L Wx m e we) : PE X e (tOf L Wx m we) := by
  obtain ⟨t, h1, h2⟩ := h
  refine ⟨fun pins s σ H Q I q => ?_⟩
  obtain ⟨H0, M, ρ, θ, N, Nx, rfl, rep, j, hw, hN, hX⟩ := q
  exact h1.run pins s σ M.H Q I (h2 H0 M σ ρ θ Q N Nx rep j hw hN hX)
def ttOf (L : Vl) (Wx : WX) (w : WT L.Θ) : TT := fun σ H Q => ∃ (H0 : Hp) (M : Wd) (ρ : DS) (θ : L.Θ) (N : Bool → L.Θ → Prop) (Nx : EK → L.Θ → Prop), M.H = H ∧ Rep L.C H0 M σ ρ ∧ L.at θ M ∧ w ρ θ N Nx ∧
  (∀ b θ' M', Ext M M' → L.at θ' M' → N b θ' → Q b M'.H) ∧ ∀ k θ' M', Ext M M' → L.at θ' M' → Nx k θ' → Wx (.ref (L.C k)) none σ M'.H
/-- a clause's tests -/
structure TXs (X : Cx) (L : Vl) (Wx : WX) (ifs : List Expr) (w : WT L.Θ) : Prop where
  pt : PTs X ifs (ttOf L Wx w)
def wYes {Θ : Type} : WT Θ := fun _ θ N _ => N true θ
theorem txs_nil : TXs X L Wx [] wYes := by
  refine ⟨⟨fun pins s σ H Q I q => pts_nil.run pins s σ H Q I ?_⟩⟩
  obtain ⟨H0, M, ρ, θ, N, Nx, rfl, rep, j, hw, hN, hX⟩ := q
  exact hN true θ M (.refl rep.ok) j hw
theorem txs_one {w : WT L.Θ} (h : TX X L Wx c w) : TXs X L Wx [c] w := by
  obtain ⟨t, h1, h2⟩ := h
  refine ⟨⟨fun pins s σ H Q I q => (pts_one h1).run pins s σ H Q I ?_⟩⟩
  obtain ⟨H0, M, ρ, θ, N, Nx, rfl, rep, j, hw, hN, hX⟩ := q
  exact h2 H0 M σ ρ θ Q N Nx rep j hw hN hX
def tgOf (C : EK → Addr) (is : List Nat) (g : WG) : TG := fun v σ H Q => ∃ (H0 : Hp) (M : Wd) (ρ : DS) (d : D) (N : DS → Prop), M.H = H ∧ Rep C H0 M σ ρ ∧ Rv C M.G v d ∧ g d ρ N ∧ ∀ σ' ρ', Upto is σ σ' → Rep C H0 M σ' ρ' → N ρ' → Q σ' M.H
theorem GX.pg {is : List Nat} {g : WG} (h : GX X C is tg g) : PG X tg (tgOf C is g) := by
  obtain ⟨t, h1, h2⟩ := h
  refine ⟨fun pins s σ H v u Q I r q => h1.run pins s σ H v u Q I r ?_⟩
  obtain ⟨H0, M, ρ, d, N, rfl, rep, rv, hg, k⟩ := q
  exact h2 H0 M σ ρ v d Q N rep rv hg k
/-! ### list comprehensions -/
def lcGo {Θ : Type} (g : WG) (tt : WT Θ) (wl : WE Θ) (ρ : DS) (N : D → Θ → Prop) : List D → List PyData → Θ → Prop
  | [], acc, θ => N (.py (.list acc)) θ
  | d :: ds, acc, θ => g d ρ fun ρ1 => tt ρ1 θ (fun b θ1 => if b = true then wl ρ1 θ1 (fun y θ2 => ∃ x, y = .py x ∧ acc.length < sizeLine ∧ lcGo g tt wl ρ N ds (acc ++ [x]) θ2) (fun _ _ => False) else lcGo g tt wl ρ N ds acc θ1) (fun _ _ => False)
def wLc {Θ : Type} (wi : WI Θ) (g : WG) (tt : WT Θ) (wl : WE Θ) (vs : List Nat) : WE Θ := fun ρ θ N Nx => wi ρ θ (fun ds θ1 => lcGo g tt wl (wipeD ρ vs) N ds [] θ1) Nx
theorem rx_lc {wi : WI L.Θ} {is vs : List Nat} {g : WG} {tt : WT L.Θ} {wl : WE L.Θ} {ti : TI} (hi : RXi L Wx ti wi) (his : ∀ i ∈ is, i ∈ vs) : RXe L Wx .s (tLc ti (tgOf L.C is g) (ttOf L WF tt) (tOf L WF .s wl) vs) (wLc wi g tt wl vs) := by
  intro H0 M σ ρ θ Q N Nx rep j hw hN hX
  refine hi H0 M σ ρ θ _ _ Nx rep j hw (fun ds θ1 M1 J e1 j1 hJ n1 => ?_) hX
  intro P np
  have rep1 := rep.ext e1
  obtain ⟨gP, zP⟩ := e1.ok.free np
  have start : Ext M1 (M1.put P (.lst [])) := ext_put (.refl e1.ok) gP zP np
  refine ⟨fun i k H => k = ds.length - i ∧ i ≤ ds.length ∧ ∃ M2 θ2 acc vals, M2.H = H ∧ Ext M1 M2 ∧ M2.H P = some (.lst vals) ∧ M2.G P = none ∧ M2.Z P = none ∧ DrAll M2.G vals acc ∧ L.at θ2 M2 ∧ lcGo g tt wl (wipeD ρ vs) N (ds.drop i) acc θ2, ⟨ds.length, by simp, Nat.zero_le _, M1.put P (.lst []), θ1, [], [], rfl, start, upd_same, gP, zP, .nil, j1, n1⟩, ?_⟩
  rintro i k H2 ⟨rfl, hi, M2, θ2, acc, vals, rfl, e2, hP, gP2, zP2, dr, j2, n2⟩
  obtain ⟨go, stop⟩ := hJ M2 e2.ok e2.g
  by_cases hlt : i < ds.length
  · have hd : ds[i]? = some ds[i] := List.getElem?_eq_getElem hlt
    obtain ⟨h1, h2⟩ := go i _ hd
    rw [List.drop_eq_getElem_cons hlt] at n2
    refine .inr ⟨h1, fun H' => ∃ M3 θ3 acc vals, M3.H = H' ∧ Ext M1 M3 ∧ M3.H P = some (.lst vals) ∧ M3.G P = none ∧ M3.Z P = none ∧ DrAll M3.G vals acc ∧ L.at θ3 M3 ∧ lcGo g tt wl (wipeD ρ vs) N (ds.drop (i + 1)) acc θ3, fun H' q => ⟨_, by omega, rfl, hlt, q⟩, fun x H' hy => ?_⟩
    obtain ⟨M3, rfl, e3, r3⟩ := h2 x H' hy
    have e13 := e2.trans e3.1
    refine ⟨H0, M3, wipeD ρ vs, ds[i], _, rfl, (rep1.ext e13).wipe vs, r3, n2, fun σ4 ρ4 up rep4 n4 => ⟨?_, ?_⟩⟩
    · have w1 := up.wipe his
      have w2 : L2.wipe (L2.wipe σ vs) vs = L2.wipe σ vs := by
        apply List.ext_getElem?
        intro q
        rw [wipe_get, wipe_get, wipe_length]
        by_cases hq : q ∈ vs
        · rw [if_pos hq, if_pos hq]
        · rw [if_neg hq, if_neg hq]
      rw [w1, w2]
    · obtain ⟨hP3, gP3, zP3⟩ := e3.1.k P _ hP zP2
      refine ⟨H0, M3, ρ4, θ2, _, _, rfl, rep4, L.ext0 e3 j2, n4, fun b θ5 M5 e5 j5 n5 => ?_, fun _ _ _ _ _ q => q.elim⟩
      obtain ⟨hP5, gP5, zP5⟩ := e5.k P _ hP3 zP3
      have g5 : M5.G P = none := gP5.trans (gP3.trans gP2)
      have dr5 : DrAll M5.G vals acc := (dr.mono e3.1.g).mono e5.g
      have e15 := e13.trans e5
      cases b with
      | false => exact ⟨M5, θ5, acc, vals, rfl, e15, hP5, g5, zP5, dr5, j5, n5⟩
      | true =>
        refine ⟨H0, M5, ρ4, θ5, _, _, rfl, rep4.ext e5, j5, n5, fun y θ6 M6 v6 e6 j6 r6 n6 => ?_, fun _ _ _ _ _ q => q.elim⟩
        obtain ⟨z, rfl, hl, n6⟩ := n6
        obtain ⟨hP6, gP6, zP6⟩ := e6.k P _ hP5 zP5
        have g6 : M6.G P = none := gP6.trans g5
        have dr6 : DrAll M6.G vals acc := dr5.mono e6.g
        refine ⟨vals, hP6, by rw [dr6.len]; exact hl, M6.put P (.lst (vals ++ [v6])), θ6, acc ++ [z], vals ++ [v6], rfl, ext_put (e15.trans e6) g6 zP6 np, upd_same, g6, zP6, dr6.append (.one r6), j6, n6⟩
  · have ei : ds.drop i = [] := List.drop_eq_nil_of_le (by omega)
    rw [ei] at n2
    obtain ⟨ef, sg⟩ := ext_frz e2 hP gP2 zP2 np
    exact .inl ⟨stop i (by omega), hN (.py (.list acc)) θ2 (M2.frz P (.lst vals)) _ (e1.trans ef) (L.mono sg j2) (Dr.lst upd_same (dr.mono sg)) n2⟩
section
variable {elt iter : Expr} {ifs : List Expr} {scope : Scope} {own : List (Str × Nat)} {is : List Nat} {wi : WI L.Θ} {g : WG} {tt : WT L.Θ} {wl : WE L.Θ}
theorem ex_lc (hc : X.calm = true) (hN : X.N.Nodup) (own : List (Str × Nat)) (hi : IX X L Wx tg iter wi) (ok : BlkOk X.N X.env.scope scope own)
    (hg : ∀ (s : Shared) (H : Hp) (P : Addr) (cl : List (Str × Addr)) (fp : List Addr), GX (X.blk s H scope (compEnvC scope cl P X.env) fp) L.C is tg g) (ht : ∀ (s : Shared) (H : Hp) (P : Addr) (cl : List (Str × Addr)) (fp : List Addr), TXs (X.blk s H scope (compEnvC scope cl P X.env) fp) L WF ifs tt)
    (he : ∀ (s : Shared) (H : Hp) (P : Addr) (cl : List (Str × Addr)) (fp : List Addr), EX (X.blk s H scope (compEnvC scope cl P X.env) fp) L WF .s elt wl) (his : ∀ i ∈ is, i ∈ own.map (·.2) := by decide) (hs : ∀ x, foldedSetIterable iter X.env x = pure x := by intro _; rfl) :
    EX X L Wx .s (.ListComp elt [⟨tg, iter, ifs, 0⟩] scope pos) (wLc wi g tt wl (own.map (·.2))) := by
  obtain ⟨ti, i1, i2⟩ := hi
  exact ⟨_, pe_lc hc hN i1 ok (fun s H P cl fp => (hg s H P cl fp).pg) (fun s H P cl fp => (ht s H P cl fp).pt) (fun s H P cl fp => (he s H P cl fp).pe) hs, rx_lc i2 his⟩
theorem sx_setLc (i : Nat) {y : Str} {py spos : Pos} (hc : X.calm = true) (hN : X.N.Nodup) (own : List (Str × Nat)) (hi : IX X L Wx tg iter wi) (ok : BlkOk X.N X.env.scope scope own)
    (hg : ∀ (s : Shared) (H : Hp) (P : Addr) (cl : List (Str × Addr)) (fp : List Addr), GX (X.blk s H scope (compEnvC scope cl P X.env) fp) L.C is tg g) (ht : ∀ (s : Shared) (H : Hp) (P : Addr) (cl : List (Str × Addr)) (fp : List Addr), TXs (X.blk s H scope (compEnvC scope cl P X.env) fp) L WF ifs tt)
    (he : ∀ (s : Shared) (H : Hp) (P : Addr) (cl : List (Str × Addr)) (fp : List Addr), EX (X.blk s H scope (compEnvC scope cl P X.env) fp) L WF .s elt wl) (hsw : swapsWith (.ListComp elt [⟨tg, iter, ifs, 0⟩] scope pos) (some (.Name y py)) spos.line X.env = pure true) (his : ∀ i ∈ is, i ∈ own.map (·.2) := by decide)
    (hy : X.N[i]? = some y := by rfl) (hyl : X.env.scope.names.lookup y = some .local := by rfl) (hs : ∀ x, foldedSetIterable iter X.env x = pure x := by intro _; rfl) :
    SX X L Wx (.Assign [.Name y py] (.ListComp elt [⟨tg, iter, ifs, 0⟩] scope pos) spos) (wSet i (wLc wi g tt wl (own.map (·.2)))) := by
  obtain ⟨ti, i1, i2⟩ := hi
  exact ⟨_, ps_setLc hc hN hy hyl hsw i1 ok (fun s H P cl fp => (hg s H P cl fp).pg) (fun s H P cl fp => (ht s H P cl fp).pt) (fun s H P cl fp => (he s H P cl fp).pe) hs, rs_set (rx_lc i2 his)⟩
end
/-! ### texts -/
def wM1 {Θ : Type} (f : F2) (okc : D → D → Prop) (wa wb : WE Θ) : WE Θ := fun ρ θ N Nx => wa ρ θ (fun x θ1 => ∃ z, x = .py (.str z) ∧ wb ρ θ1 (fun y θ2 => ∃ d, f x y = some d ∧ okc x y ∧ N d θ2) Nx) Nx
theorem rx_m1 {f : F2} {okc : D → D → Prop} {r : V → List V → Hp → VK → Prop} {t u : TE} (h1 : RXe L Wx m t wa) (h2 : RXe L Wx m' u wb)
    (hr : ∀ (M : Wd) (x y : V) (dx dy d : D) (Q : VK), M.Ok → Re L.C .r M x dx → Re L.C .r M y dy → f dx dy = some d → okc dx dy → (∀ M' v, Ext0 M M' → Rv L.C M'.G v d → Q v M'.H) → r x [y] M.H Q) : RXe L Wx .s (tM1 r t u) (wM1 f okc wa wb) := by
  intro H0 M σ ρ θ Q N Nx rep j hw hN hX
  refine h1 H0 M σ ρ θ _ _ Nx rep j hw (fun x θ1 M1 v1 e1 j1 r1 n1 => ?_) hX
  obtain ⟨z, rfl, n1⟩ := n1
  refine ⟨⟨z, r1.r.str⟩, ?_⟩
  refine h2 H0 M1 σ ρ θ1 _ _ Nx (rep.ext e1) j1 n1 (fun y θ2 M2 v2 e2 j2 r2 n2 => ?_) (fun k θ' M' e j n => hX k θ' M' (e1.trans e) j n)
  obtain ⟨d, hf, hok, n⟩ := n2
  exact hr M2 v1 v2 _ y d Q e2.ok (r1.ext e2).r r2.r hf hok (fun M' v e r => hN d θ2 M' v (e1.trans (e2.trans e.1)) (L.ext0 e j2) r n)
/-- the texts of data -/
def strsOf : List PyData → Option (List Str)
  | [] => some []
  | .str i :: r => (strsOf r).map (i :: ·)
  | _ :: _ => none
theorem strsOf_eq : ∀ {ds : List PyData} {ns : List Str}, strsOf ds = some ns → ds = ns.map .str
  | [], _, h => by cases h; rfl
  | .str i :: r, ns, h => by
    have h' : (strsOf r).map (i :: ·) = some ns := h
    cases e : strsOf r with
    | none => rw [e] at h'; cases h'
    | some es =>
      rw [e] at h'
      have h2 : i :: es = ns := Option.some.inj h'
      subst h2
      rw [List.map_cons, ← strsOf_eq e]
  | .none :: _, _, h => by cases h
  | .bool _ :: _, _, h => by cases h
  | .int _ :: _, _, h => by cases h
  | .list _ :: _, _, h => by cases h
  | .tuple _ :: _, _, h => by cases h
  | .dict _ :: _, _, h => by cases h
theorem strsOf_map : ∀ ns : List Str, strsOf (ns.map .str) = some ns
  | [] => rfl
  | n :: ns => by
    show (strsOf (ns.map .str)).map (n :: ·) = _
    rw [strsOf_map ns]
    rfl
def fSplit : F2
  | .py (.str a), .py (.str b) => some (.py (.list ((Txt.split a b).map .str)))
  | _, _ => none
def kSplit : D → D → Prop
  | .py (.str a), .py (.str b) => (b.length == 0) = false ∧ a.length + 2 ≤ sizeLine
  | _, _ => True
theorem ex_split {apos : Pos} (ho : EX X L Wx m a wa) (he : EX X L Wx m' e we) (hs : starEach [e] X.env = [(false, eval e X.env)] := by rfl) (hbase : attributeBase a "split" X.env (eval a X.env) = eval a X.env := by rfl) (hline : (apos.endLine == pos.line) = true := by rfl) :
    EX X L Wx .s (.Call (.Attribute a "split" apos) [e] [] pos) (wM1 fSplit kSplit wa we) := by
  obtain ⟨t, a1, a2⟩ := ho
  obtain ⟨u, b1, b2⟩ := he
  refine ⟨_, pe_split a1 b1 hs hbase hline, rx_m1 a2 b2 fun M x y dx dy d Q ok rx ry hf hk q => ?_⟩
  unfold fSplit at hf
  split at hf
  · cases hf
    exact ⟨_, _, rx.str, by rw [ry.str], hk.1, hk.2, new_lst ok (.of_strs _) q⟩
  · cases hf
def fPart : F2
  | .py (.str a), .py (.str b) => some (.py (.tuple [.str (Txt.partition a b).1, .str (Txt.partition a b).2.1, .str (Txt.partition a b).2.2]))
  | _, _ => none
def kPart : D → D → Prop
  | .py (.str a), .py (.str b) => (b.length == 0) = false ∧ a.length ≤ sizeLine
  | _, _ => True
theorem ex_part {apos : Pos} (ho : EX X L Wx m a wa) (he : EX X L Wx m' e we) (hs : starEach [e] X.env = [(false, eval e X.env)] := by rfl) (hbase : attributeBase a "partition" X.env (eval a X.env) = eval a X.env := by rfl) (hline : (apos.endLine == pos.line) = true := by rfl) :
    EX X L Wx .s (.Call (.Attribute a "partition" apos) [e] [] pos) (wM1 fPart kPart wa we) := by
  obtain ⟨t, a1, a2⟩ := ho
  obtain ⟨u, b1, b2⟩ := he
  refine ⟨_, pe_partition a1 b1 hs hbase hline, rx_m1 a2 b2 fun M x y dx dy d Q ok rx ry hf hk q => ?_⟩
  unfold fPart at hf
  split at hf
  · cases hf
    exact ⟨_, _, rx.str, by rw [ry.str], hk.1, hk.2, new_tup ok (.cons (.str _) (.cons (.str _) (.cons (.str _) .nil))) q⟩
  · cases hf
def fJoin : F2
  | .py (.str a), .py (.list ds) => (strsOf ds).map fun ys => .py (.str (Txt.join a ys))
  | _, _ => none
def kJoin : D → D → Prop
  | .py (.str a), .py (.list ds) => ∀ ys, strsOf ds = some ys → (ys.map (·.length)).sum + ys.length * a.length ≤ 16777216
  | _, _ => True
theorem ex_join {apos : Pos} (ho : EX X L Wx m a wa) (he : EX X L Wx m' e we) (hs : starEach [e] X.env = [(false, eval e X.env)] := by rfl) (hbase : attributeBase a "join" X.env (eval a X.env) = eval a X.env := by rfl) (hline : (apos.endLine == pos.line) = true := by rfl) :
    EX X L Wx .s (.Call (.Attribute a "join" apos) [e] [] pos) (wM1 fJoin kJoin wa we) := by
  obtain ⟨t, a1, a2⟩ := ho
  obtain ⟨u, b1, b2⟩ := he
  refine ⟨_, pe_join a1 b1 hs hbase hline, rx_m1 a2 b2 fun M x y dx dy d Q ok rx ry hf hk q => ?_⟩
  unfold fJoin at hf
  split at hf
  · rename_i a ds
    cases h : strsOf ds with
    | none => rw [h] at hf; cases hf
    | some ys =>
      rw [h] at hf
      cases hf
      cases strsOf_eq h
      obtain ⟨p, xs, rfl, h1, r1⟩ := Re.list ok ry
      cases r1.strs
      exact ⟨a, p, ys, rx.str, rfl, .inl (.of h1), hk ys h, q M _ (.refl ok) (Dr.str _)⟩
  · cases hf
/-! f'..' -/
def wFmt {Θ : Type} (we : WE Θ) : WE Θ := fun ρ θ N Nx => we ρ θ (fun d θ' => (∃ y, d = .py (.str y) ∧ y.length ≤ sizeLine ∧ N (.py (.str y)) θ') ∨ ∃ i : Int, d = .py (.int i) ∧ i.natAbs.log2 < 1920 ∧ N (.py (.str (toString i))) θ') Nx
theorem ex_fmt (he : EX X L Wx m e we) : EX X L Wx .s (.FormattedValue e (-1) none pos) (wFmt we) := by
  obtain ⟨t, a1, a2⟩ := he
  refine ⟨_, pe_fmt a1, fun H0 M σ ρ θ Q N Nx rep j hw hN hX => ?_⟩
  refine a2 H0 M σ ρ θ _ _ Nx rep j hw (fun d θ1 M1 v1 e1 j1 r1 n1 => ?_) hX
  rcases n1 with ⟨y, rfl, hl, n⟩ | ⟨i, rfl, hl, n⟩
  · exact .inl ⟨y, r1.r.str, hl, hN (.py (.str y)) θ1 M1 _ e1 j1 (Dr.str _) n⟩
  · exact .inr ⟨i, r1.r.int, hl, hN (.py (.str (toString i))) θ1 M1 _ e1 j1 (Dr.str _) n⟩
def wJs {Θ : Type} : List (WE Θ) → Str → DS → Θ → (Str → Θ → Prop) → (EK → Θ → Prop) → Prop
  | [], acc, _, θ, N, _ => N acc θ
  | w :: ws, acc, ρ, θ, N, Nx => w ρ θ (fun d θ' => ∃ y, d = .py (.str y) ∧ (acc ++ y).length ≤ sizeLine ∧ wJs ws (acc ++ y) ρ θ' N Nx) Nx
structure JX (X : Cx) (L : Vl) (Wx : WX) (es : List Expr) (ws : List (WE L.Θ)) : Prop where
  ex : ∃ ts, PJ X es ts ∧ ∀ (acc : Str) (H0 : Hp) (M : Wd) (σ : L2.St) (ρ : DS) (θ : L.Θ) (Q : Str → Hp → Prop) (N : Str → L.Θ → Prop) (Nx : EK → L.Θ → Prop), Rep L.C H0 M σ ρ → L.at θ M → wJs ws acc ρ θ N Nx →
    (∀ s θ' M', Ext M M' → L.at θ' M' → N s θ' → Q s M'.H) → (∀ k θ' M', Ext M M' → L.at θ' M' → Nx k θ' → Wx (.ref (L.C k)) none σ M'.H) → tJs ts acc σ M.H Q
theorem jx_nil : JX X L Wx [] [] := ⟨[], .nil, fun acc H0 M σ ρ θ Q N Nx rep j hw hN hX => hN acc θ M (.refl rep.ok) j hw⟩
theorem jx_cons {ws : List (WE L.Θ)} (he : EX X L Wx .s e we) (hr : JX X L Wx es ws) : JX X L Wx (e :: es) (we :: ws) := by
  obtain ⟨t, a1, a2⟩ := he
  obtain ⟨ts, b1, b2⟩ := hr
  refine ⟨t :: ts, .cons a1 b1, fun acc H0 M σ ρ θ Q N Nx rep j hw hN hX => ?_⟩
  refine a2 H0 M σ ρ θ _ _ Nx rep j hw (fun d θ1 M1 v1 e1 j1 r1 n1 => ?_) hX
  obtain ⟨y, rfl, hl, n⟩ := n1
  exact ⟨y, (show Re L.C .s M1 v1 (.py (.str y)) from r1).r.str, hl, b2 (acc ++ y) H0 M1 σ ρ θ1 Q N Nx (rep.ext e1) j1 n (fun s θ' M' e j n => hN s θ' M' (e1.trans e) j n) (fun k θ' M' e j n => hX k θ' M' (e1.trans e) j n)⟩
def wJoined {Θ : Type} (ws : List (WE Θ)) : WE Θ := fun ρ θ N Nx => wJs ws Str.empty ρ θ (fun s θ' => N (.py (.str s)) θ') Nx
theorem ex_joined {v1 v2 : Expr} {rest : List Expr} {ws : List (WE L.Θ)} (h : JX X L Wx (v1 :: v2 :: rest) ws) : EX X L Wx .s (.JoinedStr (v1 :: v2 :: rest) pos) (wJoined ws) := by
  obtain ⟨ts, a1, a2⟩ := h
  exact ⟨_, pe_joined a1, fun H0 M σ ρ θ Q N Nx rep j hw hN hX => a2 Str.empty H0 M σ ρ θ _ _ Nx rep j hw (fun s θ' M' e' j' n => hN (.py (.str s)) θ' M' _ e' j' (Dr.str _) n) hX⟩
/-! ### isinstance of data -/
def tyName : PyData → String
  | .none => "NoneType" | .bool _ => "bool" | .int _ => "int" | .str _ => "str" | .list _ => "list" | .tuple _ => "tuple" | .dict _ => "dict"
theorem ty_of {K : PySem.W.Frag} {M : Wd} {v : V} {d : PyData} (ok : M.Ok) (r : Re C .r M v (.py d)) : TyX K M.H v (.type (tyName d)) := by
  rcases r with r | ⟨a, xs, ds, rfl, e, h, _⟩
  · cases (show Dr M.G v d from r) with
    | non => exact .base .non
    | bl b => exact .base (.bl b)
    | int i => exact .base (.int i)
    | str x => exact .base (.str x)
    | lst h _ => exact .base (.lst (ok.g _ _ h))
    | tup h _ => exact .base (.tup (ok.g _ _ h))
  · cases e
    exact .base (.lst h)
def isiB (T t : String) : Bool := t == T || (t == "bool" && T == "int")
def wIsi {Θ : Type} (T : String) (we : WE Θ) : WE Θ := fun ρ θ N Nx => we ρ θ (fun x θ' => ∃ d, x = .py d ∧ N (.py (.bool (isiB T (tyName d)))) θ') Nx
theorem ex_isi {T : Str} {pT : Pos} (U : String) (hm : X.mg "isinstance" = none) (hmT : X.mg T = none) (hg : Gl X "isinstance") (hgT : Gl X T) (he : EX X L Wx m e we) (hT : bootBuiltins T = some (.type U) := by decide +kernel) (hk : ∀ t ∈ ["NoneType", "bool", "int", "str", "list", "tuple", "dict"], kitB t U = some (isiB U t) := by decide +kernel) (hnT : T ≠ "__name__" := by decide) (hdT : (T == ("__debug__" : Str)) = false := by decide)
    (h1 : starEach [e, .Name T pT] X.env = (false, eval e X.env) :: starEach [.Name T pT] X.env := by rfl) (h2 : starEach [.Name T pT] X.env = (false, eval (.Name T pT) X.env) :: starEach [] X.env := by rfl) (hpl : (backTo pos (starEach [.Name T pT] X.env)).any (·.1) = false := by rfl) :
    EX X L Wx .s (.Call (.Name "isinstance" p) [e, .Name T pT] [] pos) (wIsi U we) := by
  obtain ⟨t, a1, a2⟩ := he
  refine ⟨_, pe_callB call_isi hg hm (by decide +kernel) (pa_cons a1 (pa_cons (pe_bltn (v := .ty U) hgT hmT hT rfl hnT hdT) pa_nil h2) h1) (by decide) (by decide) h1 hpl, fun H0 M σ ρ θ Q N Nx rep j hw hN hX => ?_⟩
  refine a2 H0 M σ ρ θ _ _ Nx rep j hw (fun x θ1 M1 v1 e1 j1 r1 n1 => ?_) hX
  obtain ⟨d, rfl, n⟩ := n1
  have hb : kitB (tyName d) U = some (isiB U (tyName d)) := hk _ (by cases d <;> simp [tyName])
  exact ⟨v1, .ty U, _, _, _, rfl, .ty U, ty_of e1.ok r1.r, kit_ty hb, hN (.py (.bool (isiB U (tyName d)))) θ1 M1 _ e1 j1 (Dr.bl _) n⟩
end RT
end
section
set_option Elab.async false
set_option linter.all false
set_option maxRecDepth 100000
set_option maxHeartbeats 2000000
theorem L2.Room.u65 {k : Nat} {A : PySem.Around} (r : L2.Room k A) : A.units + 65 < PySem.cLine := by
  have h := r.un
  omega
namespace RT
open PySem PySem.Spec PyProof.Rows L2
variable {X : Cx} {L : Vl} {Wx : WX} {C : EK → Addr} {m m' : Md} {tg e a b c : Expr} {es : List Expr} {we wa wb wc : WE L.Θ} {wr : WA L.Θ} {pos p p2 : Pos}
def wNeg {Θ : Type} (wa : WE Θ) : WE Θ := fun ρ θ N Nx => wa ρ θ (fun x θ1 => ∃ i, x = .py (.int i) ∧ N (.py (.int (-i))) θ1) Nx
theorem ex_neg (ha : EX X L Wx m a wa) : EX X L Wx .s (.UnaryOp .USub a pos) (wNeg wa) := by
  obtain ⟨t, a1, a2⟩ := ha
  refine ⟨_, pe_un un_neg a1, fun H0 M σ ρ θ Q N Nx rep j hw hN hX => ?_⟩
  refine a2 H0 M σ ρ θ _ _ Nx rep j hw (fun x θ1 M1 v1 e1 j1 r1 n1 => ?_) hX
  obtain ⟨i, rfl, n⟩ := n1
  exact ⟨i, r1.r.int, hN (.py (.int (-i))) θ1 M1 _ e1 j1 (Dr.int _) n⟩
abbrev kInts : D → D → Prop := fun x y => (∃ i, x = .py (.int i)) ∧ ∃ j, y = .py (.int j)
abbrev kMulI : D → D → Prop := fun x y => ∃ i j, x = .py (.int i) ∧ y = .py (.int j) ∧ CMul i j
/-- x = [a, b, ..], x an own list from here on -/
def wNewD {Θ : Type} (i : Nat) (wr : WA Θ) : WS Θ := fun N ρ θ => wr ρ θ (fun xs θ' => ∃ ds, pys xs = some ds ∧ ds.length ≤ sizeLine ∧ N.nx (ρ.set i (.own ds)) θ') N.ex
theorem sx_newD (i : Nat) {x : Str} {pos' p2 : Pos} (hN : X.N.Nodup) (ha : AX X L Wx .s es wr) (hi : X.N[i]? = some x := by rfl) (hx : Loc X.env.scope x := by first | exact Or.inl rfl | exact Or.inr rfl) (hs : swapsWith (.List es p2) (some (.Name x pos')) pos.line X.env = pure false := by rfl)
    (hf : X.fn x = true ∨ X.env.scope.names.lookup x = some .local := by first | exact .inl rfl | exact .inr rfl | assumption) : SX X L Wx (.Assign [.Name x pos'] (.List es p2) pos) (wNewD i wr) := by
  obtain ⟨t, a1, a2⟩ := ha
  refine ⟨_, ps_set hN hi hx (pe_lst a1) hs hf, fun M0 M σ ρ θ E N e rep j hw f => ?_⟩
  refine a2 M0.H M σ ρ θ _ _ N.ex rep j hw (fun xs θ1 M1 vs e1 j1 r1 n1 => ?_) (fun k θ' M' e' j' n => f.ex M' σ k θ' (e.trans e') j' n)
  obtain ⟨ds, hp, hl, n⟩ := n1
  have dr := pys_dr hp r1
  refine ⟨by rw [dr.len]; exact hl, fun p np => ?_⟩
  have e2 := e.trans e1
  exact f.nx (M1.put p (.lst vs)) _ _ θ1 (ext_put e2 (e1.ok.free np).1 (e1.ok.free np).2 (e2.t p np)) e1.g ((rep.ext e1).newOwn i np (e2.t p np) dr) j1 n
/-- x = x + e, x an own list -/
def wOwnCat {Θ : Type} (i : Nat) (we : WE Θ) : WS Θ := fun N ρ θ => ∃ ds, ρ[i]? = some (.own ds) ∧ we ρ θ (fun y θ' => ∃ es, y = .py (.list es) ∧ ds.length + es.length ≤ sizeLine ∧ N.nx (ρ.set i (.own (ds ++ es))) θ') N.ex
theorem sx_ownCat (i : Nat) {x : Str} {pos' p1 p2 : Pos} (hN : X.N.Nodup) (he : EX X L Wx m e we) (hi : X.N[i]? = some x := by rfl) (hx : Loc X.env.scope x := by first | exact Or.inl rfl | exact Or.inr rfl) (hv : Vis X.env.scope x := by first | exact Or.inl rfl | exact Or.inr (Or.inl rfl) | exact Or.inr (Or.inr rfl)) (hs : swapsWith (.BinOp (.Name x p1) .Add e p2) (some (.Name x pos')) pos.line X.env = pure false := by rfl)
    (hd : (x == ("__debug__" : Str)) = false := by decide) (hcd : (x == ("__classdict__" : Str)) = false := by decide)
    (hf : X.fn x = true ∨ X.env.scope.names.lookup x = some .local := by first | exact .inl rfl | exact .inr rfl | assumption) : SX X L Wx (.Assign [.Name x pos'] (.BinOp (.Name x p1) .Add e p2) pos) (wOwnCat i we) := by
  obtain ⟨t, a1, a2⟩ := he
  refine ⟨_, ps_set hN hi hx (pe_op op_cat (pe_var hi hv hd hcd) a1) hs hf, fun M0 M σ ρ θ E N e rep j hw f => ?_⟩
  obtain ⟨ds, h, hw⟩ := hw
  obtain ⟨a, xs, s0, _⟩ := rep.getOwn h
  refine ⟨_, s0, ?_⟩
  refine a2 M0.H M σ ρ θ _ _ N.ex rep j hw (fun y θ1 M1 v1 e1 j1 r1 n1 => ?_) (fun k θ' M' e' j' n => f.ex M' σ k θ' (e.trans e') j' n)
  obtain ⟨es, rfl, hl, n⟩ := n1
  obtain ⟨b, zs, rfl, hb, rz⟩ := Re.list e1.ok r1.r
  have rep1 := rep.ext e1
  obtain ⟨a', xs', s', g1, z1, h0, hx', rx⟩ := rep1.getOwn h
  have ea : a' = a := by
    have q := s'.symm.trans s0
    injection q with q
    injection q with q
    injection q
  subst ea
  refine ⟨a', b, xs', zs, rfl, rfl, hx', hb, by rw [rx.len, rz.len]; exact hl, fun p np => ?_⟩
  have e2 := e.trans e1
  exact f.nx (M1.put p (.lst (xs' ++ zs))) _ _ θ1 (ext_put e2 (e1.ok.free np).1 (e1.ok.free np).2 (e2.t p np)) e1.g (rep1.newOwn i np (e2.t p np) (rx.append rz)) j1 n
/-- a, b = (x, y) of plain local names -/
def wPar2 {Θ : Type} (i k : Nat) (wr : WA Θ) : WS Θ := fun N ρ θ => wr ρ θ (fun xs θ' => ∃ d1 d2, xs = [d1, d2] ∧ N.nx ((ρ.set i (.is d1)).set k (.is d2)) θ') N.ex
theorem sx_par2 (i k : Nat) {x y : Str} {px py pt : Pos} {kt k2 : Nat} {pt2 : Pos} (hN : X.N.Nodup) (ha : AX X L Wx .s [a, b] wr) (hc : X.calm = true := by rfl) (hi : X.N[i]? = some x := by rfl) (hj : X.N[k]? = some y := by rfl) (hij : i ≠ k := by decide)
    (hx : X.env.scope.names.lookup x = some .local := by rfl) (hy : X.env.scope.names.lookup y = some .local := by rfl)
    (hw : swappedStores [.Tuple [.Name x px, .Name y py] kt pt] (.Tuple [a, b] k2 pt2) X.env = pure (some [x, y]) := by rfl)
    (hs : swapsWithSole [.Tuple [.Name x px, .Name y py] kt pt] (.Tuple [a, b] k2 pt2) pos.line X.env = pure false := by rfl) : SX X L Wx (.Assign [.Tuple [.Name x px, .Name y py] kt pt] (.Tuple [a, b] k2 pt2) pos) (wPar2 i k wr) := by
  obtain ⟨t, a1, a2⟩ := ha
  refine ⟨_, ps_par hc hN hi hj hij hx hy a1 hw hs, fun M0 M σ ρ θ E N e rep j hw f => ?_⟩
  refine a2 M0.H M σ ρ θ _ _ N.ex rep j hw (fun xs θ1 M1 vs e1 j1 r1 n1 => ?_) (fun k θ' M' e' j' n => f.ex M' σ k θ' (e.trans e') j' n)
  obtain ⟨d1, d2, rfl, n⟩ := n1
  cases r1 with
  | cons h1 t =>
    cases t with
    | cons h2 t =>
      cases t
      exact ⟨_, _, rfl, f.nx M1 _ _ θ1 (e.trans e1) e1.g (((rep.ext e1).set i h1).set k h2) j1 n⟩
/-! ### sorted(set(xs)), xs a list of ints -/
end RT
end
section
set_option Elab.async false
set_option linter.all false
set_option maxRecDepth 100000
set_option maxHeartbeats 6400000
namespace RT
open PySem PySem.Spec PyProof.Rows L2
section
variable {P : Program} {w : World} {A : Around} {E : Value → Shared → Prop} {s : Shared}
/-- set(xs) of a list of ints: what is told of the set, and that all stays -/
abbrev freshSet (w : World) : Obj := { cls := .type "set", dict := none, data := .set #[] 0 (.fresh 0 0 (!w.params.followText "set-order")) }
theorem set_of_list {l : Addr} {items : Array Value} (ns : List Int) {Q : Value → Shared → Prop} (calm : A.handled = none) (isl : s.heap.IsList l items) (hints : IntsAre items.toList ns) (room : ns.length + 1 < scanBound)
    (k : ∀ (h' : Heap) (tk c : Nat), SetR w h' s.heap.objs.size (fun j => decide (j ∈ ns)) c → (∀ b o, s.heap.get? b = some o → h'.get? b = some o) → Q (.ref s.heap.objs.size) { s with heap := h', toks := tk }) :
    wpAny (model P w) A (call (.type "set") [.ref l]) Q E s := by
  have sz : items.size = ns.length := (Array.length_toList (xs := items)).symm.trans (IntsAre.length hints)
  obtain ⟨c0, tl0, hm0⟩ := F.called_set.mro
  have q1 := F.called_set.made
  have q2 := F.called_set.sub
  refine wpAny_call (codeAny_of_tree ?_)
  change wpAny _ _ (callAny (.type "set") _) _ _ _
  refine wpAny_pure ⟨Code.quiet_builtin _ (by decide +kernel), codeAny_builtin F.entry_type_call ?_⟩
  rw [Around.under_plain (weight_type_call_type "set" [.ref l] []) rfl]
  have q3 := F.called_set.notType
  have q4 := F.called_set.canCreate
  have q5 := F.typeCall_set_1 (.ref l)
  repeat (any_goals (first | assumption | wp_step))
  refine codeAny_mono (code_set_led1 (.ref l) (E := E) (Q₁ := fun obj s₁ => obj = .ref s.heap.objs.size ∧ s₁ = { s with heap := s.heap.push (freshSet w) }) ⟨rfl, rfl⟩) fun r s₁ hr => ?_
  match r, hr with
  | .error _, hr => exact hr
  | .ok (.next), hr => exact hr.elim
  | .ok (.brk), hr => exact hr.elim
  | .ok (.cont), hr => exact hr.elim
  | .ok (.ret obj), hr =>
    obtain ⟨eo, es⟩ := hr
    subst eo
    subst es
    have at0 : (s.heap.push (freshSet w)).get? s.heap.objs.size = some (freshSet w) := Heap.get?_push_size _ rfl
    have ty0 : Shared.TypeIs { s with heap := s.heap.push (freshSet w) } (.ref s.heap.objs.size) "set" := ⟨_, at0, rfl⟩
    have q6 := F.called_set.init.lookup
    have q7 := F.called_set.init.bind (.ref s.heap.objs.size)
    repeat (any_goals (first | assumption | wp_step))
    refine codeAny_mono (codeAny_call_builtin (R := wants (fun r s₂ => r = .none ∧ ∃ h' tk c, s₂ = { s with heap := h', toks := tk } ∧ SetR w h' s.heap.objs.size (fun j => decide (j ∈ ns)) c ∧ ∀ b o, s.heap.get? b = some o → h'.get? b = some o) E) F.called_set.init.plain F.entry_set_init (check_set_init_1 ty0 ?_)) fun r₂ s₂ hr₂ => ?_
    · obtain ⟨⟨oc, od, oda, osl⟩, hol, hcl, nl, hdl⟩ := isl
      have ecl : oc = .type "list" := hcl
      have eda : oda = .seq items nl := hdl
      subst ecl
      subst eda
      have hol' : (s.heap.push (freshSet w)).get? l = some { cls := .type "list", dict := od, data := .seq items nl, slots := osl } := Heap.get?_push_of_some _ hol
      have q8 := F.sub_list_set
      have q9 := F.sub_list_frozenset
      have q10 : (Value.type "list" == Value.type "dict") = false := by decide
      have isl1 : (s.heap.push (freshSet w)).IsList l items := ⟨_, hol', rfl, nl, rfl⟩
      unfold Builtin.«set.__init__» noKeywords Builtin.Frozenset.updateFrom
      generalize eI : pyIter = PI
      wp_walk
      subst eI
      refine wpAny_pyIter_list isl1 ?_
      refine wpAny_bind (wpAny_runValue ?_)
      have lt0 : l < s.heap.objs.size := Heap.lt_size hol
      have calm3 : A.in1.in1.in1.handled = none := by simp [calm]
      have size1 : (s.heap.push (freshSet w)).objs.size = s.heap.objs.size + 1 := Heap.size_push ..
      have apart : l ≠ (s.heap.push (freshSet w)).objs.size := by
        rw [size1]
        exact Nat.ne_of_lt (Nat.lt_succ_of_lt lt0)
      have notIn : s.heap.objs.size ∉ [(s.heap.push (freshSet w)).objs.size, l] := by
        rw [size1]
        simp only [List.mem_cons, List.not_mem_nil, or_false, not_or]
        exact ⟨Nat.ne_of_lt (Nat.lt_succ_self _), Nat.ne_of_gt lt0⟩
      have vals : ∀ (i : Nat) (v : Value), items[i]? = some v → ∃ k t, ns[i]? = some k ∧ v = .int k t := fun i v hv => by
        have hi : i < ns.length := by
          rw [← sz]
          exact (Array.getElem?_eq_some_iff.mp hv).1
        obtain ⟨t, e⟩ := PyProof.Rows.IntsAre.int_at hints i v (by rw [Array.getElem?_toList]; exact hv)
        refine ⟨ns[i], t, List.getElem?_eq_getElem hi, ?_⟩
        rw [e, List.getD_eq_getElem?_getD, List.getElem?_eq_getElem hi]
        rfl
      refine set_update_ints ((Walks.list calm3 _ l apart items).toS) s.heap.objs.size notIn ns sz room vals (items.size - 0) 0 _ (by omega) (Nat.zero_le _) ⟨⟨_, Heap.get?_push_size _ rfl, rfl, rfl⟩, isl1.push _⟩ ?first ?last
      case first =>
        have g : ((s.heap.push (freshSet w)).push { cls := .type "list_iterator", data := .fields #[.ref l, .int 0 0] }).get? s.heap.objs.size = some (freshSet w) := Heap.get?_push_of_some _ at0
        exact ⟨0, Nat.le_refl 0, setR_new_at g⟩
      case last =>
        intro s' c' hm hc' hS'
        obtain ⟨h', g2, d', tk', os'⟩ := s'
        have e1 : g2 = s.gens := hm.gens
        have e2 : d' = s.drawn := hm.drawn
        have e3 : os' = s.os := hm.os
        subst e1
        subst e2
        subst e3
        refine wpAny_pure ?_
        change wpAny _ _ (ret Value.none) _ _ _
        refine wpAny_pure ⟨rfl, h', tk', c', rfl, hS', fun b o e => ?_⟩
        have b0 : b < s.heap.objs.size := Heap.lt_size e
        refine hm.heap b o ?_ (Heap.get?_push_of_some _ (Heap.get?_push_of_some _ e))
        simp only [List.mem_cons, List.not_mem_nil, or_false, not_or]
        exact ⟨Nat.ne_of_lt b0, by rw [size1]; exact Nat.ne_of_lt (Nat.lt_succ_of_lt b0)⟩
    · match r₂, hr₂ with
      | .error _, hr₂ => exact hr₂
      | .ok (.next), hr₂ => exact hr₂.elim
      | .ok (.brk), hr₂ => exact hr₂.elim
      | .ok (.cont), hr₂ => exact hr₂.elim
      | .ok (.ret _), hr₂ =>
        obtain ⟨e0, h', tk, c', e1, hS', hk'⟩ := hr₂
        subst e0
        subst e1
        repeat (any_goals (first | assumption | wp_step))
        exact k _ _ _ hS' hk'
end
end RT
end
section
set_option Elab.async false
set_option linter.all false
set_option maxRecDepth 100000
set_option maxHeartbeats 2000000
namespace RT
open PySem PySem.Spec PyProof.Rows L2
variable {X : Cx} {L : Vl} {Wx : WX} {C : EK → Addr} {m m' : Md} {tg e a b c : Expr} {es : List Expr} {we wa wb wc : WE L.Θ} {wr : WA L.Θ} {pos p p2 : Pos}
theorem few_ints {l : List Int} (nd : l.Nodup) (h : ∀ k ∈ l, 0 ≤ k ∧ k < 60) : l.length ≤ 60 := by
  have q := nat_nodup_len (l.map Int.toNat) (List.range 60) ?_ ?_
  · rw [List.length_map, List.length_range] at q
    exact q
  · rw [List.Nodup, List.pairwise_map]
    refine List.Pairwise.imp_of_mem (fun {x y} hx hy ne e => ?_) nd
    have hx := h x hx
    have hy := h y hy
    exact ne (by omega)
  · intro x hx
    obtain ⟨k, hk, rfl⟩ := List.mem_map.mp hx
    have := h k hk
    exact List.mem_range.mpr (by omega)
def rSetI (K : PySem.W.Frag) (w : World) : List V → Hp → VK → Prop := fun xs H Q => ∃ (l : Addr) (ns : List Int), xs = [V.ref l] ∧ SqL K H l (ns.map V.int) ∧ ns.length ≤ 4000 ∧ (∀ k ∈ ns, 0 ≤ k ∧ k < 60) ∧
  ∀ (p : Addr) (c : Nat), H p = none → c ≤ 60 → Q (.ref p) (upd H p (SetO w p (fun j => decide (j ∈ ns)) c))
theorem cr_setI (hc : X.calm = true) : CallR X (.type "set") (rSetI X.K X.w) := by
  intro pins s σ H xs us Q I r h
  obtain ⟨l, ns, rfl, hs, hn, hb, q⟩ := h
  obtain ⟨its, rv, hl, _⟩ := I.list hs
  rw [Vals.ref1 r]
  refine set_of_list (P := X.prog) (w := X.w) ns (I.ok.hd hc) hl.isList (by simpa using rv.ints) (by unfold scanBound; omega) fun h' tk c hS hk => ?_
  have hc60 : c ≤ 60 := by
    obtain ⟨o, es, ep, t, ho, hx, hd, g, nd, mm, hbd, hf, hsz, _⟩ := hS
    rw [← hsz]
    have q := few_ints nd fun k hk => hb k (of_decide_eq_true ((mm k).mpr hk))
    simpa using q
  have new := I.hok.fresh (Nat.le_refl s.heap.objs.size)
  exact ⟨.ref _, upd H s.heap.objs.size (SetO X.w s.heap.objs.size (fun j => decide (j ∈ ns)) c), I.laid (t' := tk) hk (Nat.le_refl _) (setO_new hS), rfl, q _ c new hc60⟩
def setL (ns : List Int) : List Int := ((List.range 60).map fun k : Nat => (k : Int)).filter fun k => decide (k ∈ ns)
theorem asc_uniq : ∀ {l r : List Int}, l.Pairwise (· < ·) → r.Pairwise (· < ·) → (∀ k, k ∈ l ↔ k ∈ r) → l = r
  | [], [], _, _, _ => rfl
  | [], x :: r, _, _, h => absurd ((h x).mpr List.mem_cons_self) (by simp)
  | x :: l, [], _, _, h => absurd ((h x).mp List.mem_cons_self) (by simp)
  | x :: l, y :: r, hl, hr, h => by
    obtain ⟨h1, h2⟩ := List.pairwise_cons.mp hl
    obtain ⟨h3, h4⟩ := List.pairwise_cons.mp hr
    have e : x = y := by
      rcases List.mem_cons.mp ((h x).mp List.mem_cons_self) with e | hx
      · exact e
      · rcases List.mem_cons.mp ((h y).mpr List.mem_cons_self) with e | hy
        · exact e.symm
        · have := h3 x hx
          have := h1 y hy
          omega
    subst e
    rw [asc_uniq h2 h4 fun k => ?_]
    constructor
    · intro hk
      rcases List.mem_cons.mp ((h k).mp (List.mem_cons_of_mem _ hk)) with e | q
      · subst e
        exact absurd (h1 _ hk) (Int.lt_irrefl _)
      · exact q
    · intro hk
      rcases List.mem_cons.mp ((h k).mpr (List.mem_cons_of_mem _ hk)) with e | q
      · subst e
        exact absurd (h3 _ hk) (Int.lt_irrefl _)
      · exact q
theorem setL_asc (ns : List Int) : (setL ns).Pairwise (· < ·) := by
  refine List.Pairwise.filter _ ?_
  rw [List.pairwise_map]
  exact List.Pairwise.imp (fun {x y} h => by omega) List.pairwise_lt_range
theorem mem_setL {ns : List Int} (h : ∀ k ∈ ns, 0 ≤ k ∧ k < 60) (k : Int) : k ∈ setL ns ↔ k ∈ ns := by
  unfold setL
  rw [List.mem_filter]
  constructor
  · intro q
    exact of_decide_eq_true q.2
  · intro q
    refine ⟨List.mem_map.mpr ⟨k.toNat, List.mem_range.mpr ?_, ?_⟩, decide_eq_true q⟩
    · have := h k q
      omega
    · have := h k q
      omega
def wSortSet {Θ : Type} (wa : WE Θ) : WE Θ := fun ρ θ N Nx => wa ρ θ (fun x θ1 => ∃ ds ns, x = .py (.list ds) ∧ intsOf ds = some ns ∧ ns.length ≤ 4000 ∧ (∀ k ∈ ns, 0 ≤ k ∧ k < 60) ∧ N (.py (.list ((setL ns).map .int))) θ1) Nx
theorem ex_sortSet {p3 : Pos} (hc : X.calm = true) (hm : X.mg "sorted" = none) (hm2 : X.mg "set" = none) (hg : Gl X "sorted") (hg2 : Gl X "set") (ha : EX X L Wx m a wa)
    (h1 : starEach [a] X.env = (false, eval a X.env) :: starEach [] X.env := by rfl) (h2 : starEach [.Call (.Name "set" p3) [a] [] p2] X.env = (false, eval (.Call (.Name "set" p3) [a] [] p2) X.env) :: starEach [] X.env := by rfl) :
    EX X L Wx .s (.Call (.Name "sorted" p) [.Call (.Name "set" p3) [a] [] p2] [] pos) (wSortSet wa) := by
  obtain ⟨t, a1, a2⟩ := ha
  refine ⟨_, pe_callB (cr_sortedSet hc) hg hm (by decide +kernel) (pa_cons (pe_callTy (cr_setI hc) hg2 hm2 (by decide +kernel) (pa_cons a1 pa_nil h1) (by decide) (by decide) h1 rfl) pa_nil h2) (by decide) (by decide) h2 rfl, fun H0 M σ ρ θ Q N Nx rep j hw hN hX => ?_⟩
  refine a2 H0 M σ ρ θ _ _ Nx rep j hw (fun x θ1 M1 v1 e1 j1 r1 n1 => ?_) hX
  obtain ⟨ds, ns, rfl, hi, hn, hb, n⟩ := n1
  obtain ⟨l, rfl, hl⟩ := re_ints e1.ok r1.r hi
  refine ⟨l, ns, rfl, .of hl, hn, hb, fun q c nq hc => ?_⟩
  refine ⟨q, _, c, rfl, upd_same, by omega, fun ms r asc mm len nr => ?_⟩
  have em : ms = setL ns := asc_uniq asc (setL_asc ns) fun k => by
    rw [mm k, mem_setL hb k]
    exact ⟨fun z => of_decide_eq_true z, fun z => decide_eq_true z⟩
  subst em
  obtain ⟨gq, zq⟩ := e1.ok.free nq
  have x1 : Ext M1 (M1.put q (SetO X.w q (fun j => decide (j ∈ ns)) c)) := ext_put (.refl e1.ok) gq zq nq
  have x2 := Ext0.add x1.ok (o := .lst ((setL ns).map V.int)) nr
  exact hN (.py (.list ((setL ns).map .int))) θ1 _ (.ref r) (e1.trans (x1.trans x2.1)) (L.ext0 ⟨x1.trans x2.1, rfl⟩ j1) (Dr.lst add_at (.of_ints _)) n
end RT
end
section
set_option Elab.async false
set_option linter.all false
set_option maxRecDepth 100000
set_option maxHeartbeats 2000000
namespace RT
open PySem PySem.Spec PyProof.Rows L2
/-! ### draws of a script -/
inductive DrawSt where
  | pre (s : Addr) | on (a : Addr)
def DrawJ (K : PySem.W.Frag) : DrawSt → Hp → Hp → Prop
  | .pre s, G, Z => (∀ b, Z b = none) ∧ ∃ ns : List Int, ns.length ≤ 63 ∧ SqL K G s (ns.map V.int)
  | .on a, _, Z => ∃ (b : Addr) (c : Int) (ns : List Int), a ≠ b ∧ Z a = some (.lst [.ref b, .int c]) ∧ Z b = some (.lst (ns.map V.int)) ∧ ns ≠ [] ∧ ns.length ≤ 63
theorem SqL.mono' {K : PySem.W.Frag} {G G' : Hp} {a : Addr} {xs : List V} (s : Same G G') (h : SqL K G a xs) : SqL K G' a xs :=
  h.elim (fun h => .inl (h.elim (fun h => .inl (s _ _ h)) fun ⟨o, h⟩ => .inr ⟨o, s _ _ h⟩)) fun h => .inr h
theorem DrawJ.mono {K : PySem.W.Frag} : ∀ {θ : DrawSt} {G G' Z : Hp}, Same G G' → DrawJ K θ G Z → DrawJ K θ G' Z
  | .pre _, _, _, _, s, ⟨h, ns, hl, hq⟩ => ⟨h, ns, hl, SqL.mono' s hq⟩
  | .on _, _, _, _, _, h => h
abbrev VD (K : PySem.W.Frag) (C : EK → Addr) : Vl := ⟨C, DrawSt, DrawJ K, DrawJ.mono⟩
def spd_draw : Spec DrawSt := fun ds θ N _ => ∃ (a : Addr) (lim : Int), ds = [.rf a, .py (.int lim)] ∧ θ = .on a ∧ 0 < lim ∧ lim < 1073741824 ∧ ∀ n, 0 ≤ n → n < lim → N (.py (.int n)) (.on a)
def spd_start : Spec DrawSt := fun ds θ N _ => ∃ s : Addr, ds = [.rf s] ∧ θ = .pre s ∧ ∀ a, N (.rf a) (.on a)
/-! the readings of the two defs -/
abbrev rMod : R2 := rI (fun _ j => 0 < j) fun i j => .int (i % j)
abbrev rFd : R2 := rI CDiv fun i j => .int (i / j)
abbrev rAd : R2 := rI0 fun i j => .int (i + j)
abbrev rMu : R2 := rI CMul fun i j => .int (i * j)
abbrev rPw : R2 := rI CPow fun i j => .int (i ^ j.toNat)
abbrev rGe : R2 := rI0 fun i j => .bl (decide (j ≤ i))
abbrev rLenL (K : PySem.W.Frag) : List V → Hp → VK → Prop := fun xs H Q => ∃ p ys, xs = [V.ref p] ∧ (SqL K H p ys ∨ SqT K H p ys) ∧ Q (.int ys.length) H
def drawT (K : PySem.W.Frag) : TS :=
  tSeq (tAsg (tOp (rIxL K) (tVar 0) (tC (.int 0))) (gName 2))
  (tSeq (tAsg (tOp rAd (tOp (rIxL K) (tVar 0) (tC (.int 1))) (tC (.int 1))) (gSub (tVar 0) (tC (.int 1)) rSetL))
  (tSeq (tAsg (tOp rMod (tOp (rIxL K) (tVar 0) (tC (.int 1))) (tCB (rLenL K) (tCons (tVar 2) tNil))) (gName 3))
  (tSeq (tAsg (tOp (rIxL K) (tVar 2) (tVar 3)) (gName 4))
  (tSeq (tIfS (tTest (tOp rGe (tVar 4) (tC (.int 1000000000000000000))))
      (tSeq (tAsg (tOp rFd (tVar 4) (tVar 1)) (gSub (tVar 2) (tVar 3) rSetL)) (tRet (tOp rMod (tVar 4) (tVar 1)))) tNext)
  (tSeq (tAsg (tOp rMod (tOp rAd (tVar 4) (tOp rMu (tC (.int 104729)) (tOp (rIxL K) (tVar 0) (tC (.int 1))))) (tC (.int 4294967291))) (gName 5))
  (tSeq (tAsg (tOp rMod (tOp rPw (tVar 5) (tC (.int 5))) (tC (.int 4294967279))) (gName 5))
    (tRet (tOp rMod (tOp rFd (tOp rMod (tOp rAd (tOp rMu (tOp rFd (tVar 5) (tC (.int 64))) (tC (.int 69621))) (tVar 5)) (tC (.int 4294967231))) (tC (.int 8))) (tVar 1)))))))))
def startT (K : PySem.W.Frag) (rNe : R2) (rL : List V → Hp → VK → Prop) : TS :=
  tRet (tLst (tCons (tIf (tTest (tOp rNe (tVar 0) (tLst tNil))) (tCB rL (tCons (tVar 0) tNil)) (tLst (tCons (tC (.int 0)) tNil))) (tCons (tC (.int 0)) tNil)))
theorem atI_nat {α : Type} {xs : List α} {i : Int} {x : α} (h0 : 0 ≤ i) (h : xs[i.toNat]? = some x) : atI xs i = some x := by
  have hl := lt_of_get h
  unfold atI ixN
  rw [if_pos h0, if_pos (by omega)]
  exact h
theorem draw_sem {K : PySem.W.Frag} {H : Hp} {E : Ends} {a b : Addr} {lim c : Int} {ns : List Int} (ha : H a = some (.lst [.ref b, .int c])) (hb : H b = some (.lst (ns.map V.int))) (ne : a ≠ b) (hn : ns ≠ []) (h1 : 0 < lim) (h2 : lim < 1073741824)
    (hq : ∀ n c' ns', 0 ≤ n → n < lim → ns' ≠ [] → ns'.length = ns.length → E.rt (.int n) (upd (upd H a (.lst [.ref b, .int c'])) b (.lst (ns'.map V.int)))) : drawT K E [some (.ref a), some (.int lim), none, none, none, none] H := by
  have hln : 0 < ns.length := List.length_pos_iff.mpr hn
  refine ⟨.ref a, rfl, a, _, 0, .ref b, rfl, rfl, .of ha, rfl, ?_⟩
  refine ⟨.ref a, rfl, a, _, 1, .int c, rfl, rfl, .of ha, rfl, c, 1, rfl, rfl, ?_⟩
  refine ⟨.ref a, rfl, a, _, 1, 1, rfl, rfl, ha, rfl, ?_⟩
  refine ⟨.ref a, rfl, a, _, 1, .int (c + 1), rfl, rfl, .of upd_same, rfl, .ref b, rfl, b, _, rfl, .inl (.of (by rw [upd_ne (Ne.symm ne)]; exact hb)), ?_⟩
  have hl : ((ns.map V.int).length : Int) = ns.length := by rw [List.length_map]
  refine ⟨_, _, rfl, rfl, by rw [hl]; omega, ?_⟩
  rw [hl]
  dsimp only
  have m0 : 0 ≤ (c + 1) % (ns.length : Int) := Int.emod_nonneg _ (by omega)
  have m1 : (c + 1) % (ns.length : Int) < ns.length := Int.emod_lt_of_pos _ (by omega)
  have hx : ns[((c + 1) % (ns.length : Int)).toNat]? = some (ns[((c + 1) % (ns.length : Int)).toNat]'(by omega)) := List.getElem?_eq_getElem _
  generalize ns[((c + 1) % (ns.length : Int)).toNat]'(by omega) = x at hx
  generalize he : (c + 1) % (ns.length : Int) = i at *
  have hbb : ∀ {o : HO}, upd H a o b = some (.lst (ns.map V.int)) := fun {o} => by rw [upd_ne (Ne.symm ne)]; exact hb
  refine ⟨.ref b, rfl, .int i, rfl, b, _, i, .int x, rfl, rfl, .of hbb, atI_nat m0 (by rw [List.getElem?_map, hx]; rfl), ?_⟩
  refine ⟨.int x, rfl, x, 1000000000000000000, rfl, rfl, _, rfl, ?_⟩
  have mm : ∀ z : Int, 0 ≤ z % lim ∧ z % lim < lim := fun z => ⟨Int.emod_nonneg _ (by omega), Int.emod_lt_of_pos _ h1⟩
  by_cases hc : (1000000000000000000 : Int) ≤ x
  · rw [decide_eq_true hc]
    dsimp only
    rw [if_pos rfl]
    refine ⟨.int x, rfl, .int lim, rfl, x, lim, rfl, rfl, ⟨h1, h2⟩, ?_⟩
    refine ⟨.ref b, rfl, .int i, rfl, b, _, i, i.toNat, rfl, rfl, hbb, ?_, ?_⟩
    · unfold ixN
      rw [if_pos m0, if_pos (by rw [List.length_map]; exact m1)]
    · refine ⟨.int x, rfl, .int lim, rfl, x, lim, rfl, rfl, h1, ?_⟩
      rw [← List.map_set]
      refine hq _ _ _ (mm _).1 (mm _).2 ?_ (List.length_set ..)
      intro q
      have := congrArg List.length q
      rw [List.length_set] at this
      exact absurd this (by simp; exact hn)
  · rw [decide_eq_false hc]
    dsimp only
    rw [if_neg (by decide)]
    have hp : ∀ z : Int, 0 ≤ z % 4294967291 ∧ z % 4294967291 < 4294967291 := fun z => by omega
    refine ⟨.int x, rfl, .ref a, rfl, a, _, 1, .int (c + 1), rfl, rfl, .of upd_same, rfl, 104729, c + 1, rfl, rfl, .inl ⟨by omega, by omega⟩, ?_⟩
    refine ⟨x, _, rfl, rfl, _, 4294967291, rfl, rfl, by omega, ?_⟩
    dsimp only
    generalize hz : (x + 104729 * (c + 1)) % 4294967291 = z
    obtain ⟨z0, z1⟩ := hp (x + 104729 * (c + 1))
    rw [hz] at z0 z1
    refine ⟨.int z, rfl, z, 5, rfl, rfl, ⟨by omega, by omega, by omega⟩, _, 4294967279, rfl, rfl, by omega, ?_⟩
    dsimp only
    generalize z ^ (5 : Int).toNat % 4294967279 = y
    refine ⟨.int y, rfl, y, 64, rfl, rfl, ⟨by omega, by omega⟩, _, 69621, rfl, rfl, .inr ⟨by omega, by omega⟩, .int y, rfl, _, y, rfl, rfl, _, 4294967231, rfl, rfl, by omega, _, 8, rfl, rfl, ⟨by omega, by omega⟩, .int lim, rfl, _, lim, rfl, rfl, h1, ?_⟩
    have := hq ((y / 64 * 69621 + y) % 4294967231 / 8 % lim) (c + 1) ns (mm _).1 (mm _).2 hn rfl
    have e : upd (upd H a (.lst [.ref b, .int (c + 1)])) b (.lst (ns.map V.int)) = upd H a (.lst [.ref b, .int (c + 1)]) := by
      funext q
      by_cases e : q = b
      · subst e
        rw [upd_same, upd_ne (Ne.symm ne)]
        exact hb.symm
      · rw [upd_ne e]
    rw [e] at this
    exact this
end RT
end
section
set_option Elab.async false
set_option linter.all false
set_option maxRecDepth 100000
set_option maxHeartbeats 2000000
namespace RT
open PySem PySem.Spec PyProof.Rows L2
/-! ### the two defs of draws keep their promise -/
def Wd.zput (M : Wd) (p : Addr) (o : HO) : Wd := ⟨M.G, upd M.Z p o, upd M.H p o⟩
theorem zput_ok {M : Wd} (ok : M.Ok) {p : Addr} {o : HO} (g : M.G p = none) : (M.zput p o).Ok := by
  refine ⟨fun b x e => ?_, fun b x e => ?_, fun b x e => ?_⟩
  · show upd M.H p o b = some x
    rw [upd_ne (ne_of_none (show M.G b = some x from e) g)]
    exact ok.g _ _ e
  · by_cases hb : b = p
    · subst hb
      have e' : upd M.Z b o b = some x := e
      rw [upd_same] at e'
      show upd M.H b o b = some x
      rw [upd_same]
      exact e'
    · have e' : upd M.Z p o b = some x := e
      rw [upd_ne hb] at e'
      show upd M.H p o b = some x
      rw [upd_ne hb]
      exact ok.z _ _ e'
  · show upd M.Z p o b = none
    rw [upd_ne (ne_of_none (show M.G b = some x from e) g)]
    exact ok.d _ _ e
/-- a new object that an invariant keeps -/
theorem ext_znew {M : Wd} (ok : M.Ok) {p : Addr} {o : HO} (h : M.H p = none) : Ext M (M.zput p o) := by
  refine ⟨zput_ok ok (ok.free h).1, Same.refl _, fun b e => ?_, fun b x e z => ?_⟩
  · by_cases hb : b = p
    · rw [hb]
      exact h
    · have e' : upd M.H p o b = none := e
      rw [upd_ne hb] at e'
      exact e'
  · have hb := ne_of_none e h
    refine ⟨?_, rfl, ?_⟩
    · show upd M.H p o b = some x
      rw [upd_ne hb]
      exact e
    · show upd M.Z p o b = none
      rw [upd_ne hb]
      exact z
/-- such an object written -/
theorem ext_zset {M : Wd} (ok : M.Ok) {p : Addr} {o o0 : HO} (h : M.Z p = some o0) : Ext M (M.zput p o) := by
  have g : M.G p = none := by
    cases q : M.G p with
    | none => rfl
    | some u =>
      rw [ok.d _ _ q] at h
      cases h
  refine ⟨zput_ok ok g, Same.refl _, fun b e => ?_, fun b x e z => ?_⟩
  · by_cases hb : b = p
    · subst hb
      have e' : upd M.H b o b = none := e
      rw [upd_same] at e'
      cases e'
    · have e' : upd M.H p o b = none := e
      rw [upd_ne hb] at e'
      exact e'
  · have hb : b ≠ p := fun q => by
      rw [q, h] at z
      cases z
    refine ⟨?_, rfl, ?_⟩
    · show upd M.H p o b = some x
      rw [upd_ne hb]
      exact e
    · show upd M.Z p o b = none
      rw [upd_ne hb]
      exact z
theorem sh_ints0 (ns : List Int) : SeqAt.shaped (.list (ns.map PyData.int)) = true := by
  have h : ∀ ms : List Int, PyData.canLayAll0 (ms.map PyData.int) = true ∧ PyData.depthAll (ms.map PyData.int) = 0 := by
    intro ms
    induction ms with
    | nil => simp [PyData.canLayAll0, PyData.depthAll]
    | cons m ms ih => simp [PyData.canLayAll0, PyData.depthAll, PyData.canLay0, PyData.depth, ih]
  obtain ⟨h1, h2⟩ := h ns
  simp [SeqAt.shaped, PyData.canLay0, PyData.depth, h1, h2]
section
variable {P : Program} {w : World} {K : PySem.W.Frag} {mg : Str → Option Value} {base : Heap} {C : EK → Addr} {x qual : Str} {params : Arguments} {body : List Stmt} {scope : Scope} {f : Addr} {fd : FuncData} {k : Nat}
theorem draw_ok {N ps : List Str} (hN : N.length = 6) (hps : ps.length = 2) (F : FunD K x qual params body scope [] [] f fd) (S : FnScope N ps scope)
    (hb : ∀ (cdv : Value) (A : Around) (outer : List Env) (s : Shared) (H : Hp) (E : XK), Room k (A.deeper (envOfC qual scope s.heap.objs.size f cdv)) → PSs (cxOf (L2.CX P w) P w K mg base N qual scope f cdv A outer s H E) body (drawT K)) :
    FnOk P w K mg base (L2.CX P w) (k + 1) f fd ps (SpD (VD K C) spd_draw) := by
  refine F.ok S (fun vs H Q E h => ?_) (fun cdv A outer s H vs Q E hr h => ⟨_, hb cdv A outer s H E hr, ?_⟩)
  · obtain ⟨M, θ, ds, Nn, Nx, _, _, _, r, ⟨a, lim, rfl, _⟩, _⟩ := h
    rw [Paired.length r, hps]
    rfl
  · obtain ⟨M, θ, ds, Nn, Nx, rfl, ok, j, r, ⟨a, lim, rfl, rfl, l1, l2, hn⟩, h1, _⟩ := h
    obtain ⟨b, c, ns, ne, za, zb, nn, nl⟩ := j
    cases r with
    | cons r1 r =>
      cases r with
      | cons r2 r =>
        cases r
        cases (show _ = V.ref a from r1)
        cases (show Dr M.G _ (.int lim) from r2)
        have est : L2.start N [V.ref a, V.int lim] = [some (some (V.ref a)), some (some (V.int lim)), none, none, none, none].map (fun x => x.getD none) := by
          unfold L2.start
          rw [hN]
          rfl
        have est2 : L2.start N [V.ref a, V.int lim] = [some (.ref a), some (.int lim), none, none, none, none] := est
        rw [est2]
        refine draw_sem (ok.z _ _ za) (ok.z _ _ zb) ne nn l1 l2 fun n c' ns' n0 n1 nn' nl' => ?_
        have e1 := ext_zset ok (o := .lst [.ref b, .int c']) za
        have zb1 : (M.zput a (.lst [.ref b, .int c'])).Z b = some (.lst (ns.map V.int)) := by
          show upd M.Z a _ b = _
          rw [upd_ne (Ne.symm ne)]
          exact zb
        have e2 := ext_zset e1.ok (o := .lst (ns'.map V.int)) zb1
        refine h1 (.py (.int n)) (.on a) _ _ (e1.trans e2) ⟨b, c', ns', ne, ?_, upd_same, nn', by omega⟩ (Dr.int _) (hn n n0 n1)
        show upd (upd M.Z a _) b _ a = _
        rw [upd_ne ne, upd_same]
theorem start_ok {N ps : List Str} (hN : N.length = 1) (hps : ps.length = 1) (F : FunD K x qual params body scope [] [] f fd) (S : FnScope N ps scope)
    (hb : ∀ (cdv : Value) (A : Around) (outer : List Env) (s : Shared) (H : Hp) (E : XK), Room k (A.deeper (envOfC qual scope s.heap.objs.size f cdv)) →
      PSs (cxOf (L2.CX P w) P w K mg base N qual scope f cdv A outer s H E) body (startT K (rNeD K) (fun xs H Q => ∃ p ys, xs = [.ref p] ∧ (SqL K H p ys ∨ SqT K H p ys) ∧ ∀ l, H l = none → Q (.ref l) (upd H l (.lst ys))))) :
    FnOk P w K mg base (L2.CX P w) (k + 1) f fd ps (SpD (VD K C) spd_start) := by
  refine F.ok S (fun vs H Q E h => ?_) (fun cdv A outer s H vs Q E hr h => ⟨_, hb cdv A outer s H E hr, ?_⟩)
  · obtain ⟨M, θ, ds, Nn, Nx, _, _, _, r, ⟨a, rfl, _⟩, _⟩ := h
    rw [Paired.length r, hps]
    rfl
  · obtain ⟨M, θ, ds, Nn, Nx, rfl, ok, j, r, ⟨sc, rfl, rfl, hn⟩, h1, _⟩ := h
    obtain ⟨z0, ns, nl, hs⟩ := j
    cases r with
    | cons r1 r =>
      cases r
      cases (show _ = V.ref sc from r1)
      have est : L2.start N [V.ref sc] = [some (.ref sc)] := by
        unfold L2.start
        rw [hN]
        rfl
      rw [est]
      have fin : ∀ (M1 : Wd) (l : Addr) (ms : List Int), Ext M M1 → (∀ b, M1.Z b = none) → M1.H l = none → ms ≠ [] → ms.length ≤ 63 → ∀ a, (upd M1.H l (.lst (ms.map V.int))) a = none → Q (.ref a) (upd (upd M1.H l (.lst (ms.map V.int))) a (.lst [.ref l, .int 0])) := by
        intro M1 l ms e1 zz hl mn ml a ha
        have e2 := ext_znew e1.ok (o := .lst (ms.map V.int)) hl
        have e3 := ext_znew e2.ok (o := .lst [.ref l, .int 0]) ha
        have hal : a ≠ l := fun q => by
          rw [q, upd_same] at ha
          cases ha
        refine h1 (.rf a) (.on a) _ _ (e1.trans (e2.trans e3)) ⟨l, 0, ms, hal, upd_same, ?_, mn, ml⟩ rfl (hn a)
        show upd (upd M1.Z l _) a _ l = _
        rw [upd_ne (Ne.symm hal), upd_same]
      show startT K _ _ _ _ _
      refine ⟨.ref sc, rfl, Nat.zero_le _, fun p hp => ?_⟩
      have e1 : Ext M (M.put p (.lst [])) := ext_put (.refl ok) (ok.free hp).1 (ok.free hp).2 hp
      have hs' : SqL K (upd M.H p (.lst [])) sc (ns.map V.int) := SqL.mono' e1.ok.g hs
      refine ⟨.list (ns.map .int), .list [], .lst hs' ?_, .lst (.of upd_same) .nil, ?_, ?_, ?_⟩
      · have : ∀ ms : List Int, DpAll K (upd M.H p (.lst [])) (ms.map V.int) (ms.map PyData.int) := by
          intro ms
          induction ms with
          | nil => exact .nil
          | cons m ms ih => exact .cons (.int m) ih
        exact this ns
      · exact sh_ints0 ns
      · exact sh_ints0 []
      · refine ⟨_, rfl, ?_⟩
        cases ns with
        | nil =>
          have e0 : (!PyData.eqv (.list (([] : List Int).map .int)) (.list [])) = false := by simp [PyData.eqv, PyData.eqvAll]
          rw [e0]
          refine ⟨by decide, fun l hl => ⟨(show 2 ≤ sizeLine by decide), fun a ha => ?_⟩⟩
          exact fin (M.put p (.lst [])) l [0] e1 z0 hl (by simp) (by simp) a ha
        | cons m ms =>
          have e0 : (!PyData.eqv (.list ((m :: ms).map .int)) (.list [])) = true := by simp [PyData.eqv, PyData.eqvAll]
          rw [e0]
          refine ⟨.ref sc, rfl, sc, _, rfl, .inl hs', fun l hl => ⟨(show 2 ≤ sizeLine by decide), fun a ha => ?_⟩⟩
          exact fin (M.put p (.lst [])) l (m :: ms) e1 z0 hl (by simp) nl a ha
end
end RT
end
section
set_option Elab.async false
set_option linter.all false
set_option maxRecDepth 100000
set_option maxHeartbeats 2000000
namespace RT
open PySem PySem.Spec PyProof.Rows L2
/-! ### data -/
abbrev Itm := Int × Int × Int
abbrev itD (q : Itm) : PyData := .tuple [.int q.1, .int q.2.1, .int q.2.2]
theorem itD_inj {p q : Itm} (h : itD p = itD q) : p = q := by
  obtain ⟨a, b, c⟩ := p
  obtain ⟨a', b', c'⟩ := q
  simp [itD] at h
  simp [h]
@[simp] theorem itD_iff {p q : Itm} : itD p = itD q ↔ p = q := ⟨itD_inj, fun h => by rw [h]⟩
@[simp] theorem map_int_inj {xs ys : List Int} : xs.map PyData.int = ys.map PyData.int ↔ xs = ys := List.map_inj_right fun x y h => by cases h; rfl
@[simp] theorem map_str_inj {xs ys : List Str} : xs.map PyData.str = ys.map PyData.str ↔ xs = ys := List.map_inj_right fun x y h => by cases h; rfl
@[simp] theorem map_bool_inj {xs ys : List Bool} : xs.map PyData.bool = ys.map PyData.bool ↔ xs = ys := List.map_inj_right fun x y h => by cases h; rfl
@[simp] theorem map_itD_inj {xs ys : List Itm} : xs.map itD = ys.map itD ↔ xs = ys := List.map_inj_right fun x y h => itD_inj h
@[simp] theorem intsOf_map' (ns : List Int) : intsOf (ns.map PyData.int) = some ns := intsOf_map _
@[simp] theorem blsOf_map' (ns : List Bool) : blsOf (ns.map PyData.bool) = some ns := blsOf_map _
@[simp] theorem strsOf_map' (ns : List Str) : strsOf (ns.map PyData.str) = some ns := strsOf_map _
/-! ### == -/
@[simp] theorem eqv_int (a b : Int) : PyData.eqv (.int a) (.int b) = decide (a = b) := by simp [PyData.eqv]; rfl
@[simp] theorem eqv_bool (a b : Bool) : PyData.eqv (.bool a) (.bool b) = decide (a = b) := by simp [PyData.eqv]; rfl
@[simp] theorem eqv_str (a b : Str) : PyData.eqv (.str a) (.str b) = decide (a = b) := by simp [PyData.eqv]; rfl
theorem eqvAll_map {α : Type} [DecidableEq α] (f : α → PyData) (h : ∀ a b, PyData.eqv (f a) (f b) = decide (a = b)) : ∀ xs ys : List α, PyData.eqvAll (xs.map f) (ys.map f) = decide (xs = ys)
  | [], [] => by simp [PyData.eqvAll]
  | [], _ :: _ => by simp [PyData.eqvAll]
  | _ :: _, [] => by simp [PyData.eqvAll]
  | x :: xs, y :: ys => by simp [PyData.eqvAll, h, eqvAll_map f h xs ys]
theorem eqv_list (xs ys : List PyData) : PyData.eqv (.list xs) (.list ys) = PyData.eqvAll xs ys := by simp [PyData.eqv]
theorem eqv_tuple (xs ys : List PyData) : PyData.eqv (.tuple xs) (.tuple ys) = PyData.eqvAll xs ys := by simp [PyData.eqv]
@[simp] theorem eqv_itD (p q : Itm) : PyData.eqv (itD p) (itD q) = decide (p = q) := by
  obtain ⟨a, b, c⟩ := p
  obtain ⟨a', b', c'⟩ := q
  simp [itD, eqv_tuple, PyData.eqvAll, Bool.decide_and]
@[simp] theorem eqv_ints (xs ys : List Int) : PyData.eqv (.list (xs.map .int)) (.list (ys.map .int)) = decide (xs = ys) := by rw [eqv_list, eqvAll_map _ eqv_int]
@[simp] theorem eqv_strs (xs ys : List Str) : PyData.eqv (.list (xs.map .str)) (.list (ys.map .str)) = decide (xs = ys) := by rw [eqv_list, eqvAll_map _ eqv_str]
@[simp] theorem eqv_its (xs ys : List Itm) : PyData.eqv (.list (xs.map itD)) (.list (ys.map itD)) = decide (xs = ys) := by rw [eqv_list, eqvAll_map _ eqv_itD]
@[simp] theorem eqv_nil (xs : List PyData) : PyData.eqv (.list xs) (.list []) = xs.isEmpty := by cases xs <;> simp [PyData.eqv, PyData.eqvAll]
/-! ### what == may be asked -/
def Shp (k : Nat) (d : PyData) : Prop := d.canLay0 = true ∧ d.depth ≤ k
theorem Shp.sh {k : Nat} {d : PyData} (h : Shp k d) (hk : k ≤ 64 := by decide) : SeqAt.shaped d = true := by
  unfold SeqAt.shaped
  rw [h.1, decide_eq_true (Nat.le_trans h.2 hk)]
  rfl
theorem Shp.mono {k j : Nat} {d : PyData} (h : Shp k d) (hk : k ≤ j) : Shp j d := ⟨h.1, Nat.le_trans h.2 hk⟩
theorem lay_all {k : Nat} : ∀ {ds : List PyData}, (∀ d ∈ ds, Shp k d) → PyData.canLayAll0 ds = true ∧ PyData.depthAll ds ≤ k
  | [], _ => by simp [PyData.canLayAll0, PyData.depthAll]
  | d :: ds, h => by
    have h1 := h d List.mem_cons_self
    have h2 := lay_all fun x hx => h x (List.mem_cons_of_mem _ hx)
    simp only [PyData.canLayAll0, PyData.depthAll, h1.1, h2.1]
    exact ⟨rfl, Nat.max_le.mpr ⟨h1.2, h2.2⟩⟩
theorem shp_list {k : Nat} {ds : List PyData} (h : ∀ d ∈ ds, Shp k d) : Shp (k + 1) (.list ds) := by
  obtain ⟨h1, h2⟩ := lay_all h
  exact ⟨by simp only [PyData.canLay0]; exact h1, by simp only [PyData.depth]; omega⟩
theorem shp_tuple {k : Nat} {ds : List PyData} (h : ∀ d ∈ ds, Shp k d) : Shp (k + 1) (.tuple ds) := by
  obtain ⟨h1, h2⟩ := lay_all h
  exact ⟨by simp only [PyData.canLay0]; exact h1, by simp only [PyData.depth]; omega⟩
theorem shp_map {k : Nat} {α : Type} {f : α → PyData} {xs : List α} (h : ∀ x ∈ xs, Shp k (f x)) : Shp (k + 1) (.list (xs.map f)) := shp_list fun d hd => by
  obtain ⟨x, hx, rfl⟩ := List.mem_map.mp hd
  exact h x hx
theorem shp_int (i : Int) : Shp 0 (.int i) := ⟨by simp [PyData.canLay0], by simp [PyData.depth]⟩
theorem shp_bool (i : Bool) : Shp 0 (.bool i) := ⟨by simp [PyData.canLay0], by simp [PyData.depth]⟩
theorem shp_none : Shp 0 .none := ⟨by simp [PyData.canLay0], by simp [PyData.depth]⟩
theorem shp_str {x : Str} (h : PyData.strOk x = true) : Shp 0 (.str x) := ⟨by simp only [PyData.canLay0]; exact h, by simp [PyData.depth]⟩
theorem shp_itD (q : Itm) : Shp 1 (itD q) := shp_tuple fun d hd => by
  simp at hd
  rcases hd with rfl | rfl | rfl <;> exact shp_int _
@[simp] theorem sh_int (i : Int) : SeqAt.shaped (.int i) = true := (shp_int i).sh
@[simp] theorem sh_bool (i : Bool) : SeqAt.shaped (.bool i) = true := (shp_bool i).sh
@[simp] theorem sh_none : SeqAt.shaped .none = true := shp_none.sh
@[simp] theorem sh_itD (q : Itm) : SeqAt.shaped (itD q) = true := (shp_itD q).sh
@[simp] theorem sh_nil : SeqAt.shaped (.list []) = true := (shp_list (k := 0) fun _ h => by cases h).sh
@[simp] theorem sh_ints (xs : List Int) : SeqAt.shaped (.list (xs.map .int)) = true := (shp_map fun x _ => shp_int x).sh
@[simp] theorem sh_its (xs : List Itm) : SeqAt.shaped (.list (xs.map itD)) = true := (shp_map fun x _ => shp_itD x).sh
theorem sh_str {x : Str} (h : PyData.strOk x = true) : SeqAt.shaped (.str x) = true := (shp_str h).sh
/-! ### comprehensions, loops -/
theorem lcGo_fm {Θ α : Type} {g : WG} {tt : WT Θ} {wl : WE Θ} {ρ : DS} {N : D → Θ → Prop} {θ : Θ} (d : α → D) (p : α → Bool) (f : α → PyData) : ∀ (xs : List α) (acc : List PyData),
    (∀ x ∈ xs, ∀ (T : D → Θ → Prop) (F : Θ → Prop), (if p x = true then T (.py (f x)) θ else F θ) → g (d x) ρ (fun ρ1 => tt ρ1 θ (fun b θ1 => if b = true then wl ρ1 θ1 T (fun _ _ => False) else F θ1) (fun _ _ => False))) →
    acc.length + xs.length ≤ sizeLine → N (.py (.list (acc ++ (xs.filter p).map f))) θ → lcGo g tt wl ρ N (xs.map d) acc θ
  | [], acc, _, _, n => by simpa [lcGo] using n
  | x :: xs, acc, h, hl, n => by
    have h0 := h x List.mem_cons_self
    have hs := fun y hy => h y (List.mem_cons_of_mem x hy)
    simp only [List.length_cons] at hl
    refine h0 (fun y θ2 => ∃ z, y = .py z ∧ acc.length < sizeLine ∧ lcGo g tt wl ρ N (xs.map d) (acc ++ [z]) θ2) (fun θ1 => lcGo g tt wl ρ N (xs.map d) acc θ1) ?_
    cases hp : p x with
    | true =>
      rw [if_pos rfl]
      refine ⟨_, rfl, by omega, ?_⟩
      refine lcGo_fm d p f xs _ hs (by simp; omega) ?_
      rw [List.filter_cons_of_pos hp] at n
      simpa using n
    | false =>
      rw [if_neg (by decide)]
      refine lcGo_fm d p f xs _ hs (by omega) ?_
      rw [List.filter_cons_of_neg (by simp [hp])] at n
      exact n
theorem lcGo_map {Θ α : Type} {g : WG} {wl : WE Θ} {ρ : DS} {N : D → Θ → Prop} {θ : Θ} (d : α → D) (f : α → PyData) (xs : List α)
    (h : ∀ x ∈ xs, ∀ T : D → Θ → Prop, T (.py (f x)) θ → g (d x) ρ (fun ρ1 => wl ρ1 θ T (fun _ _ => False))) (hl : xs.length ≤ sizeLine) (n : N (.py (.list (xs.map f))) θ) : lcGo g wYes wl ρ N (xs.map d) [] θ := by
  refine lcGo_fm d (fun _ => true) f xs [] (fun x hx T F q => ?_) (by simpa using hl) ?_
  · rw [if_pos rfl] at q
    simp only [wYes, if_true]
    exact h x hx T q
  · have e : xs.filter (fun _ => true) = xs := List.filter_eq_self.mpr fun _ _ => rfl
    rw [e]
    simpa using n
theorem lcGo_inv {Θ α : Type} {g : WG} {wl : WE Θ} {ρ : DS} {N : D → Θ → Prop} (d : α → D) (I : List α → List PyData → Θ → Prop) (h : ∀ x xs acc θ, I (x :: xs) acc θ → acc.length < sizeLine ∧ ∀ T : D → Θ → Prop, (∀ z θ', I xs (acc ++ [z]) θ' → T (.py z) θ') → g (d x) ρ (fun ρ1 => wl ρ1 θ T (fun _ _ => False)))
    (hn : ∀ acc θ, I [] acc θ → N (.py (.list acc)) θ) : ∀ (xs : List α) (acc : List PyData) (θ : Θ), I xs acc θ → lcGo g wYes wl ρ N (xs.map d) acc θ
  | [], acc, θ, i => hn acc θ i
  | x :: xs, acc, θ, i => by
    obtain ⟨hl, hh⟩ := h x xs acc θ i
    show g (d x) ρ _
    simp only [wYes, if_true]
    exact hh _ fun z θ' q => ⟨z, rfl, hl, lcGo_inv d I h hn xs _ θ' q⟩
theorem forGo_inv {Θ α : Type} {g : WG} {body : WS Θ} {N : EN Θ} (d : α → D) (I : List α → DS → Θ → Prop) (h : ∀ x xs ρ θ, I (x :: xs) ρ θ → ∀ R : DS → Θ → Prop, (∀ ρ' θ', I xs ρ' θ' → R ρ' θ') → g (d x) ρ fun ρ1 => body { N with nx := R, ct := R, bk := N.nx } ρ1 θ)
    (hn : ∀ ρ θ, I [] ρ θ → N.nx ρ θ) : ∀ (xs : List α) (ρ : DS) (θ : Θ), I xs ρ θ → forGo g body N (xs.map d) ρ θ
  | [], ρ, θ, i => hn ρ θ i
  | x :: xs, ρ, θ, i => h x xs ρ θ i _ fun ρ' θ' q => forGo_inv d I h hn xs ρ' θ' q
/-! ### equations -/
theorem e_add_i (i j : Int) : fAdd (.py (.int i)) (.py (.int j)) = some (.py (.int (i + j))) := rfl
theorem e_add_s (s t : Str) : fAdd (.py (.str s)) (.py (.str t)) = some (.py (.str (s ++ t))) := rfl
theorem e_add_l (s t : List PyData) : fAdd (.py (.list s)) (.py (.list t)) = some (.py (.list (s ++ t))) := rfl
theorem e_add_t (s t : List PyData) : fAdd (.py (.tuple s)) (.py (.tuple t)) = some (.py (.tuple (s ++ t))) := rfl
theorem e_kadd_i (i j : Int) : kAdd (.py (.int i)) (.py (.int j)) = True := rfl
theorem e_kadd_s (s t : Str) : kAdd (.py (.str s)) (.py (.str t)) = (s.length + t.length ≤ sizeLine) := rfl
theorem e_kadd_l (s t : List PyData) : kAdd (.py (.list s)) (.py (.list t)) = (s.length + t.length ≤ sizeLine) := rfl
theorem e_kadd_t (s t : List PyData) : kAdd (.py (.tuple s)) (.py (.tuple t)) = (s.length + t.length ≤ sizeLine) := rfl
theorem e_sub (i j : Int) : fSub (.py (.int i)) (.py (.int j)) = some (.py (.int (i - j))) := rfl
theorem e_kt (x y : D) : kTrue x y = True := rfl
theorem e_mul_i (i j : Int) : fMul (.py (.int i)) (.py (.int j)) = some (.py (.int (i * j))) := rfl
theorem e_mul_l (s : List PyData) (j : Int) : fMul (.py (.list s)) (.py (.int j)) = some (.py (.list (List.replicate j.toNat s).flatten)) := rfl
theorem e_kmul_i (i j : Int) : kMul (.py (.int i)) (.py (.int j)) = CMul i j := rfl
theorem e_kmul_l (s : List PyData) (j : Int) : kMul (.py (.list s)) (.py (.int j)) = (-(2 ^ 63) ≤ j ∧ j < 2 ^ 63 ∧ s.length * j.toNat ≤ sizeLine) := rfl
theorem e_div (i j : Int) : fDiv (.py (.int i)) (.py (.int j)) = some (.py (.int (i.fdiv j))) := rfl
theorem e_kdiv (i j : Int) : kDiv (.py (.int i)) (.py (.int j)) = CDivN i j := rfl
theorem e_mod (i j : Int) : fMod (.py (.int i)) (.py (.int j)) = some (.py (.int (i % j))) := rfl
theorem e_kmod (i j : Int) : kMod (.py (.int i)) (.py (.int j)) = (0 < j) := rfl
theorem e_cmp (p : Int → Int → Bool) (i j : Int) : fCmp p (.py (.int i)) (.py (.int j)) = some (.py (.bool (p i j))) := rfl
theorem e_eq (d e : PyData) : fEq (.py d) (.py e) = some (.py (.bool (PyData.eqv d e))) := rfl
theorem e_ne (d e : PyData) : fNe (.py d) (.py e) = some (.py (.bool (!PyData.eqv d e))) := rfl
theorem e_keq (d e : PyData) : kEq (.py d) (.py e) = (SeqAt.shaped d = true ∧ SeqAt.shaped e = true) := rfl
theorem e_is_n (d : D) : fIs d (.py .none) = some (.py (.bool (isNon d))) := rfl
theorem e_is_b (i j : Bool) : fIs (.py (.bool i)) (.py (.bool j)) = some (.py (.bool (decide (i = j)))) := rfl
theorem e_isn_n (d : D) : fIsN d (.py .none) = some (.py (.bool (!isNon d))) := rfl
theorem e_isn_b (i j : Bool) : fIsN (.py (.bool i)) (.py (.bool j)) = some (.py (.bool (!decide (i = j)))) := rfl
theorem e_non_n : isNon (.py .none) = true := rfl
theorem e_non_l (ds : List PyData) : isNon (.py (.list ds)) = false := rfl
theorem e_non_t (ds : List PyData) : isNon (.py (.tuple ds)) = false := rfl
theorem e_non_i (i : Int) : isNon (.py (.int i)) = false := rfl
theorem e_non_s (z : Str) : isNon (.py (.str z)) = false := rfl
theorem e_non_b (z : Bool) : isNon (.py (.bool z)) = false := rfl
theorem e_non_x (k : EK) : isNon (.ex k) = false := rfl
theorem e_in_l (d : PyData) (ds : List PyData) : fIn (.py d) (.py (.list ds)) = some (.py (.bool (ds.any fun z => PyData.eqv z d))) := rfl
theorem e_in_t (d : PyData) (ds : List PyData) : fIn (.py d) (.py (.tuple ds)) = some (.py (.bool (ds.any fun z => PyData.eqv z d))) := rfl
theorem e_ni_l (d : PyData) (ds : List PyData) : fNi (.py d) (.py (.list ds)) = some (.py (.bool (!ds.any fun z => PyData.eqv z d))) := rfl
theorem e_ni_t (d : PyData) (ds : List PyData) : fNi (.py d) (.py (.tuple ds)) = some (.py (.bool (!ds.any fun z => PyData.eqv z d))) := rfl
theorem e_kin_l (d : PyData) (ds : List PyData) : kIn (.py d) (.py (.list ds)) = (SeqAt.shaped d = true ∧ SeqAt.shaped (.list ds) = true) := rfl
theorem e_kin_t (d : PyData) (ds : List PyData) : kIn (.py d) (.py (.tuple ds)) = ((∃ i, d = .int i) ∧ ∃ ns : List Int, ds = ns.map .int) := rfl
theorem e_kin_s (d : PyData) (z : Str) : kIn (.py d) (.py (.str z)) = True := rfl
theorem e_ix_l (ds : List PyData) (i : Int) : fIx (.py (.list ds)) (.py (.int i)) = (atI ds i).map .py := rfl
theorem e_ix_t (ds : List PyData) (i : Int) : fIx (.py (.tuple ds)) (.py (.int i)) = (atI ds i).map .py := rfl
theorem e_ix_s (z : Str) (i : Int) : fIx (.py (.str z)) (.py (.int i)) = (atI z.cps.toList i).map fun c => .py (.str ⟨#[c]⟩) := rfl
theorem e_kix_l (ds : List PyData) (y : D) : kIx (.py (.list ds)) y = True := rfl
theorem e_kix_t (ds : List PyData) (y : D) : kIx (.py (.tuple ds)) y = True := rfl
theorem e_kix_s (z : Str) (y : D) : kIx (.py (.str z)) y = (z.length ≤ sizeLine) := rfl
theorem e_sl_l (ds : List PyData) (lo hi : Option Int) : fSl (.py (.list ds)) lo hi = some (.py (.list (cutD ds lo hi))) := rfl
theorem e_sl_t (ds : List PyData) (lo hi : Option Int) : fSl (.py (.tuple ds)) lo hi = some (.py (.tuple (cutD ds lo hi))) := rfl
theorem e_sl_s (z : Str) (lo hi : Option Int) : fSl (.py (.str z)) lo hi = some (.py (.str (cutS z lo hi))) := rfl
theorem e_len_l (ds : List PyData) : fLen [.py (.list ds)] = some (.py (.int ds.length)) := rfl
theorem e_len_t (ds : List PyData) : fLen [.py (.tuple ds)] = some (.py (.int ds.length)) := rfl
theorem e_len_s (z : Str) : fLen [.py (.str z)] = some (.py (.int z.length)) := rfl
theorem e_klen_l (ds : List PyData) : kLen [.py (.list ds)] = True := rfl
theorem e_klen_t (ds : List PyData) : kLen [.py (.tuple ds)] = True := rfl
theorem e_klen_s (z : Str) : kLen [.py (.str z)] = (z.length ≤ sizeLine) := rfl
theorem e_kany (ds : List D) : kAny ds = True := rfl
theorem e_list_l (ds : List PyData) : fList [.py (.list ds)] = some (.py (.list ds)) := rfl
theorem e_list_t (ds : List PyData) : fList [.py (.tuple ds)] = some (.py (.list ds)) := rfl
theorem e_tup_l (ds : List PyData) : fTuple [.py (.list ds)] = some (.py (.tuple ds)) := rfl
theorem e_tup_t (ds : List PyData) : fTuple [.py (.tuple ds)] = some (.py (.tuple ds)) := rfl
theorem e_sum (ds : List PyData) : fSum [.py (.list ds)] = (intsOf ds).map fun ns => .py (.int ns.sum) := rfl
theorem e_max (ds : List PyData) : fMax [.py (.list ds)] = (intsOf ds).map fun ns => .py (.int (maxI ns)) := rfl
theorem e_max2 (i j : Int) : fMax [.py (.int i), .py (.int j)] = some (.py (.int (if j > i then j else i))) := rfl
theorem e_min (ds : List PyData) : fMin [.py (.list ds)] = (intsOf ds).map fun ns => .py (.int (minI ns)) := rfl
theorem e_kne (ds : List PyData) : kNe [.py (.list ds)] = (ds ≠ []) := rfl
theorem e_kne2 (i j : Int) : kNe [.py (.int i), .py (.int j)] = True := rfl
theorem e_all (ds : List PyData) : fAll [.py (.list ds)] = (blsOf ds).map fun bs => .py (.bool (bs.all id)) := rfl
theorem e_str (i : Int) : fStr [.py (.int i)] = some (.py (.str (toString i))) := rfl
theorem e_kstr (i : Int) : kStr [.py (.int i)] = (i.natAbs.log2 < 1920) := rfl
theorem e_int (z : Str) : fInt [.py (.str z)] = (PySem.intText? z).map fun n => .py (.int n) := rfl
theorem e_kint (z : Str) : kInt [.py (.str z)] = (z.length ≤ 640) := rfl
theorem e_split (a b : Str) : fSplit (.py (.str a)) (.py (.str b)) = some (.py (.list ((Txt.split a b).map .str))) := rfl
theorem e_ksplit (a b : Str) : kSplit (.py (.str a)) (.py (.str b)) = ((b.length == 0) = false ∧ a.length + 2 ≤ sizeLine) := rfl
theorem e_part (a b : Str) : fPart (.py (.str a)) (.py (.str b)) = some (.py (.tuple [.str (Txt.partition a b).1, .str (Txt.partition a b).2.1, .str (Txt.partition a b).2.2])) := rfl
theorem e_kpart (a b : Str) : kPart (.py (.str a)) (.py (.str b)) = ((b.length == 0) = false ∧ a.length ≤ sizeLine) := rfl
theorem e_join (a : Str) (ds : List PyData) : fJoin (.py (.str a)) (.py (.list ds)) = (strsOf ds).map fun ys => .py (.str (Txt.join a ys)) := rfl
theorem e_kjoin (a : Str) (ds : List PyData) : kJoin (.py (.str a)) (.py (.list ds)) = ∀ ys, strsOf ds = some ys → (ys.map (·.length)).sum + ys.length * a.length ≤ 16777216 := rfl
theorem e_st0 : startD 0 [] = [] := rfl
theorem e_st1 (n : Nat) : startD (n + 1) [] = .no :: startD n [] := by simp [startD, List.replicate_succ]
theorem e_st2 (n : Nat) (d : D) (ds : List D) : startD (n + 1) (d :: ds) = .is d :: startD n ds := by simp [startD]
theorem e_pys0 : pys [] = some [] := rfl
theorem e_pys1 (d : PyData) (r : List D) : pys (.py d :: r) = (pys r).map (d :: ·) := rfl
theorem e_sa0 (ρ : DS) : setAll [] [] ρ = some ρ := rfl
theorem e_sa1 (i : Nat) (is : List Nat) (d : PyData) (ds : List PyData) (ρ : DS) : setAll (i :: is) (d :: ds) ρ = setAll is ds (ρ.set i (.is (.py d))) := rfl
theorem e_wipe0 (ρ : DS) : wipeD ρ [] = ρ := rfl
theorem e_wipe1 (ρ : DS) (v : Nat) (vs : List Nat) : wipeD ρ (v :: vs) = (wipeD ρ vs).set v .no := rfl
theorem e_js0 {Θ : Type} (acc : Str) (ρ : DS) (θ : Θ) (N : Str → Θ → Prop) (Nx : EK → Θ → Prop) : wJs [] acc ρ θ N Nx = N acc θ := rfl
theorem e_js1 {Θ : Type} (w : WE Θ) (ws : List (WE Θ)) (acc : Str) (ρ : DS) (θ : Θ) (N : Str → Θ → Prop) (Nx : EK → Θ → Prop) : wJs (w :: ws) acc ρ θ N Nx = w ρ θ (fun d θ' => ∃ y, d = .py (.str y) ∧ (acc ++ y).length ≤ sizeLine ∧ wJs ws (acc ++ y) ρ θ' N Nx) Nx := rfl
theorem e_ty_i (i : Int) : tyName (.int i) = "int" := rfl
theorem e_ty_b (i : Bool) : tyName (.bool i) = "bool" := rfl
theorem e_ty_n : tyName .none = "NoneType" := rfl
theorem e_ty_s (i : Str) : tyName (.str i) = "str" := rfl
theorem e_ty_l (i : List PyData) : tyName (.list i) = "list" := rfl
theorem e_ty_t (i : List PyData) : tyName (.tuple i) = "tuple" := rfl
theorem e_isi_ii : isiB "int" "int" = true := by decide
theorem e_isi_ib : isiB "int" "bool" = true := by decide
theorem e_isi_in : isiB "int" "NoneType" = false := by decide
theorem e_isi_is : isiB "int" "str" = false := by decide
theorem e_isi_il : isiB "int" "list" = false := by decide
theorem e_isi_it : isiB "int" "tuple" = false := by decide
theorem e_isi_bi : isiB "bool" "int" = false := by decide
theorem e_isi_bb : isiB "bool" "bool" = true := by decide
theorem e_isi_bn : isiB "bool" "NoneType" = false := by decide
theorem e_isi_bs : isiB "bool" "str" = false := by decide
theorem e_isi_bl : isiB "bool" "list" = false := by decide
theorem e_isi_bt : isiB "bool" "tuple" = false := by decide
theorem e_isi_li : isiB "list" "int" = false := by decide
theorem e_isi_lb : isiB "list" "bool" = false := by decide
theorem e_isi_ln : isiB "list" "NoneType" = false := by decide
theorem e_isi_ls : isiB "list" "str" = false := by decide
theorem e_isi_ll : isiB "list" "list" = true := by decide
theorem e_isi_lt : isiB "list" "tuple" = false := by decide
theorem e_isi_ti : isiB "tuple" "int" = false := by decide
theorem e_isi_tb : isiB "tuple" "bool" = false := by decide
theorem e_isi_tn : isiB "tuple" "NoneType" = false := by decide
theorem e_isi_ts : isiB "tuple" "str" = false := by decide
theorem e_isi_tl : isiB "tuple" "list" = false := by decide
theorem e_isi_tt : isiB "tuple" "tuple" = true := by decide
theorem e_isi_si : isiB "str" "int" = false := by decide
theorem e_isi_sb : isiB "str" "bool" = false := by decide
theorem e_isi_sn : isiB "str" "NoneType" = false := by decide
theorem e_isi_ss : isiB "str" "str" = true := by decide
theorem e_isi_sl : isiB "str" "list" = false := by decide
theorem e_isi_st : isiB "str" "tuple" = false := by decide
theorem e_up (s : Spec0) (ds : List D) (θ : Unit) (N : D → Unit → Prop) (Nx : EK → Unit → Prop) : s.up ds θ N Nx = s ds (fun d => N d ()) (fun k => Nx k ()) := rfl
/-! ### sets of numbers -/
def subs {α : Type} : List α → List (List α)
  | [] => [[]]
  | x :: xs => subs xs ++ (subs xs).map (x :: ·)
theorem filter_subs {α : Type} (p : α → Bool) : ∀ xs : List α, xs.filter p ∈ subs xs
  | [] => by simp [subs]
  | x :: xs => by
    unfold subs
    cases h : p x with
    | true =>
      rw [List.filter_cons_of_pos h]
      exact List.mem_append_right _ (List.mem_map.mpr ⟨_, filter_subs p xs, rfl⟩)
    | false =>
      rw [List.filter_cons_of_neg (by simp [h])]
      exact List.mem_append_left _ (filter_subs p xs)
theorem sub_subs {α : Type} : ∀ {ys xs : List α}, ys.Sublist xs → ys ∈ subs xs
  | _, _, .slnil => by simp [subs]
  | _, _, .cons x h => by
    unfold subs
    exact List.mem_append_left _ (sub_subs h)
  | _, _, .cons₂ x h => by
    unfold subs
    exact List.mem_append_right _ (List.mem_map.mpr ⟨_, sub_subs h, rfl⟩)
theorem subs_sub {α : Type} : ∀ {xs ys : List α}, ys ∈ subs xs → ys.Sublist xs
  | [], ys, h => by
    simp [subs] at h
    rw [h]
    exact .slnil
  | x :: xs, ys, h => by
    unfold subs at h
    rcases List.mem_append.mp h with h | h
    · exact .cons x (subs_sub h)
    · obtain ⟨zs, hz, rfl⟩ := List.mem_map.mp h
      exact .cons₂ x (subs_sub hz)
abbrev ten : List Int := [1, 2, 3, 4, 5, 6, 7, 8, 9, 10]
end RT
end
section
set_option Elab.async false
set_option linter.all false
set_option maxRecDepth 100000
set_option maxHeartbeats 2000000
namespace RT
open PySem PySem.Spec PyProof.Rows L2
local macro_rules | `(tactic| simp_arith [$ts,*] $[$loc]?) => `(tactic| simp only [$ts,*, wVar, wOwn, wC, wOp, wT, wChain, wAndT, wOrT, wNotT, wAnd, wOr, wNot, wIf, wNil, wCons, wDisp, wCall, wCall0, wNoPart, wPart, wSl, wRevL, wBlt, wItL, wItT, wItS, wRg1, wRg2, wEnum, wZip, wLR, wLR2, wYes, wM1, wFmt, wJoined, wIsi, wNeg, wNewD, wOwnCat, wPar2, wNext, wSeq, wNever, wSet, wNew, wAug, wExtend, wAppend, wPut, wFrz, wRet, wRetOwn, wRetN, wDrop, wIfS, wgName, wgTup, wUnp, wRaise, bodyEN, wLc, wFor, wSortSet, e_add_i, e_add_s, e_add_l, e_add_t, e_kadd_i, e_kadd_s, e_kadd_l, e_kadd_t, e_sub, e_kt, e_mul_i, e_mul_l, e_kmul_i, e_kmul_l, e_div, e_kdiv, e_mod, e_kmod, e_cmp, e_eq, e_ne, e_keq, e_is_n, e_is_b, e_isn_n, e_isn_b, e_non_n, e_non_l, e_non_t, e_non_i, e_non_s, e_non_b, e_non_x, e_in_l, e_in_t, e_ni_l, e_ni_t, e_kin_l, e_kin_t, e_kin_s, e_ix_l, e_ix_t, e_ix_s, e_kix_l, e_kix_t, e_kix_s, e_sl_l, e_sl_t, e_sl_s, e_len_l, e_len_t, e_len_s, e_klen_l, e_klen_t, e_klen_s, e_kany, e_list_l, e_list_t, e_tup_l, e_tup_t, e_sum, e_max, e_max2, e_min, e_kne, e_kne2, e_all, e_str, e_kstr, e_int, e_kint, e_split, e_ksplit, e_part, e_kpart, e_join, e_kjoin, e_pys0, e_pys1, e_sa0, e_sa1, e_wipe0, e_wipe1, e_js0, e_js1, e_ty_i, e_ty_b, e_ty_n, e_ty_s, e_ty_l, e_ty_t, e_isi_ii, e_isi_ib, e_isi_in, e_isi_is, e_isi_il, e_isi_it, e_isi_bi, e_isi_bb, e_isi_bn, e_isi_bs, e_isi_bl, e_isi_bt, e_isi_li, e_isi_lb, e_isi_ln, e_isi_ls, e_isi_ll, e_isi_lt, e_isi_ti, e_isi_tb, e_isi_tn, e_isi_ts, e_isi_tl, e_isi_tt, e_isi_si, e_isi_sb, e_isi_sn, e_isi_ss, e_isi_sl, e_isi_st, e_up, e_st0, e_st1, e_st2, exists_eq_left, exists_eq_left', exists_eq_right, exists_eq_right', exists_eq', exists_eq, true_and, and_true, and_self, false_and, and_false, exists_and_left, exists_and_right, exists_const, Option.some.injEq, Option.map_some, Option.map_none, Sl.is.injEq, Sl.own.injEq, D.py.injEq, D.ex.injEq, D.rf.injEq, PyData.int.injEq, PyData.bool.injEq, PyData.str.injEq, PyData.list.injEq, PyData.tuple.injEq, List.cons.injEq, if_true, if_false, eq_self, Bool.false_eq_true, Bool.true_eq_false, Bool.not_true, Bool.not_false, Bool.not_not, List.getElem?_cons_zero, List.getElem?_cons_succ, List.set_cons_zero, List.set_cons_succ, List.length_cons, List.length_nil, List.cons_append, List.nil_append, reduceCtorEq, List.replicate_zero, List.replicate_succ, Nat.reduceAdd, Nat.reduceSub, decide_true, decide_false, intsOf_map', blsOf_map', strsOf_map', map_int_inj, map_str_inj, map_bool_inj, map_itD_inj, itD_iff, sh_int, sh_bool, sh_none, sh_itD, sh_nil, sh_ints, sh_its, eqv_int, eqv_bool, eqv_str, eqv_itD, eqv_ints, eqv_strs, eqv_its, eqv_nil, Nat.zero_le, and_assoc] $[$loc]?)
theorem le_line {n : Nat} (h : n ≤ 1000000) : n ≤ sizeLine := Nat.le_trans h (by decide)
theorem le_line' {n : Nat} (h : n ≤ 16777216) : n ≤ sizeLine := Nat.le_trans h (by decide)
def Sz : PyData → Prop
  | .list ds => ds.length ≤ 1000000
  | .tuple ds => ds.length ≤ 1000000
  | .str z => z.length ≤ 1000000
  | _ => True
/-- what may be given to the checks -/
def Fine (d : PyData) : Prop := SeqAt.shaped d = true ∧ Sz d
/-! ### errors.py -/
def isIntD (lo hi : Int) : PyData → Bool
  | .int i => decide (lo ≤ i) && decide (i ≤ hi)
  | _ => false
def sp_is_int : Spec0 := fun ds N _ => ∃ d lo hi, ds = [.py d, .py (.int lo), .py (.int hi)] ∧ N (.py (.bool (isIntD lo hi d)))
def w_is_int : WS Unit :=
  wRet (wAnd (wIsi "int" (wVar 0)) (wAnd (wNot (wIsi "bool" (wVar 0))) (wChain fLe kTrue fLe kTrue (wVar 1) (wVar 0) (wVar 2))))
theorem law_is_int : ∀ ds θ N Nx, sp_is_int.up ds θ N Nx → w_is_int (bodyEN N Nx) (startD 3 ds) θ := by
  rintro ds θ N Nx ⟨d, lo, hi, rfl, n⟩
  cases d <;> simp_arith [w_is_int, e_ty_i, e_ty_b] <;> try exact n
  · rename_i i
    unfold isIntD at n
    cases h : decide (lo ≤ i) <;> simp_arith [h, Bool.true_and, Bool.false_and] at n ⊢ <;> exact n
def ascI : List Int → Bool
  | a :: b :: r => decide (a < b) && ascI (b :: r)
  | _ => true
def setI (ns : List Int) : Bool := !ns.isEmpty && ns.all (fun n => decide (1 ≤ n) && decide (n ≤ 10)) && ascI ns
def isSetD : PyData → Bool
  | .list ds => match intsOf ds with
    | some ns => setI ns
    | none => false
  | _ => false
theorem all_int (lo hi : Int) : ∀ ds : List PyData, ds.all (isIntD lo hi) = match intsOf ds with
    | some ns => ns.all (fun n => decide (lo ≤ n) && decide (n ≤ hi))
    | none => false
  | [] => rfl
  | d :: ds => by
    have ih := all_int lo hi ds
    cases d with
    | int i =>
      rw [List.all_cons, ih]
      show _ = match (intsOf ds).map (i :: ·) with
        | some ns => ns.all (fun n => decide (lo ≤ n) && decide (n ≤ hi))
        | none => false
      cases intsOf ds with
      | none => simp
      | some ns => simp [isIntD]
    | _ => simp [isIntD, intsOf]
def prD (p : Int × Int) : PyData := .tuple [.int p.1, .int p.2]
theorem zipD_ints : ∀ xs ys : List Int, zipD (xs.map .int) (ys.map .int) = (xs.zip ys).map prD
  | [], _ => by simp [zipD]
  | _ :: _, [] => by simp [zipD]
  | x :: xs, y :: ys => by simp [zipD, zipD_ints xs ys, prD]
theorem asc_zip : ∀ ns : List Int, ((ns.zip (ns.drop 1)).map fun p => decide (p.1 < p.2)).all id = ascI ns
  | [] => rfl
  | [_] => rfl
  | a :: b :: r => by
    have := asc_zip (b :: r)
    simp only [List.drop_succ_cons, List.drop_zero] at this ⊢
    simp only [List.zip_cons_cons, List.map_cons, List.all_cons, this, ascI, id]
theorem cutD_tail {α : Type} (xs : List α) : cutD xs (some 1) none = xs.drop 1 := by
  cases xs with
  | nil => simp [cutD]
  | cons x xs => simp [cutD, HT.sIx]
def sp_is_set : Spec0 := fun ds N _ => ∃ d, ds = [.py d] ∧ Fine d ∧ N (.py (.bool (isSetD d)))
def w_is_set : WS Unit :=
  wSeq (wIfS (wOrT (wNotT (wT (wIsi "list" (wVar 0)))) (wOrT (wT (wOp fEq kEq (wVar 0) (wDisp .list (wNil)))) (wNotT (wT (wBlt fAll kAny (wCons (wLc (wItL (wVar 0)) (wgName 3) (wYes) (wCall0 sp_is_int (wCons (wVar 3) (wCons (wC (.int 1)) (wCons (wC (.int 10)) (wNil))))) [3]) (wNil))))))) (wRet (wC (.bool false))) (wNext)) (wRet (wBlt fAll kAny (wCons (wLc (wZip (wCons (wVar 0) (wCons (wSl (wVar 0) (wPart (wC (.int 1))) (wNoPart)) (wNil)))) (wgTup [1, 2]) (wYes) (wOp fLt kTrue (wVar 1) (wVar 2)) [1, 2]) (wNil))))
theorem law_is_set : ∀ ds θ N Nx, sp_is_set.up ds θ N Nx → w_is_set (bodyEN N Nx) (startD 4 ds) θ := by
  rintro ds θ N Nx ⟨d, rfl, ⟨sh, sz⟩, n⟩
  cases d with
  | list ds =>
    have sz : ds.length ≤ 1000000 := sz
    simp_arith [w_is_set, sh]
    cases ds with
    | nil =>
      simp_arith [List.isEmpty_nil]
      exact n
    | cons d0 ds =>
      simp_arith [List.isEmpty_cons]
      refine lcGo_map D.py (fun d => .bool (isIntD 1 10 d)) _ (fun x hx T q => ?_) (le_line sz) ?_
      · simp_arith [sp_is_int]
        exact q
      · have e : (d0 :: ds).map (fun d => PyData.bool (isIntD 1 10 d)) = ((d0 :: ds).map (isIntD 1 10)).map PyData.bool := by simp
        rw [e]
        simp_arith [List.all_map, Function.comp_def, id]
        have ha := all_int 1 10 (d0 :: ds)
        cases hi : intsOf (d0 :: ds) with
        | none =>
          simp only [isSetD, hi] at n ha
          simp_arith [ha]
          exact n
        | some ns =>
          simp only [isSetD, hi] at n ha
          rw [ha]
          have hd := intsOf_eq hi
          unfold setI at n
          have hne : ns.isEmpty = false := by
            cases ns with
            | nil => cases hd
            | cons _ _ => rfl
          rw [hne] at n
          cases hb : ns.all fun n => decide (1 ≤ n) && decide (n ≤ 10) with
          | false =>
            rw [hb] at n
            simp_arith [and_true]
            exact n
          | true =>
            rw [hb] at n
            simp_arith [and_true]
            rw [hd, cutD_tail, ← List.map_drop, zipD_ints, List.map_map]
            refine lcGo_map (D.py ∘ prD) (fun p => .bool (decide (p.1 < p.2))) _ (fun x hx T q => ?_) ?_ ?_
            · simp_arith [Function.comp, prD]
              exact q
            · refine le_line ?_
              have hl : (d0 :: ds).length = ns.length := by rw [hd, List.length_map]
              rw [List.length_zip]
              omega
            · have e : (ns.zip (ns.drop 1)).map (fun p => PyData.bool (decide (p.1 < p.2))) = ((ns.zip (ns.drop 1)).map (fun p => decide (p.1 < p.2))).map PyData.bool := by simp
              rw [e]
              simp_arith [and_true]
              rw [asc_zip]
              exact n
  | _ =>
    simp_arith [w_is_set, sh]
    exact n
def sp_check_set : Spec0 := fun ds N Nx => ∃ d, ds = [.py d] ∧ Fine d ∧ (if isSetD d = true then N (.py .none) else Nx .set)
def w_check_set : WS Unit :=
  wIfS (wNotT (wT (wCall0 sp_is_set (wCons (wVar 0) (wNil))))) (wRaise .set) (wNext)
theorem law_check_set : ∀ ds θ N Nx, sp_check_set.up ds θ N Nx → w_check_set (bodyEN N Nx) (startD 1 ds) θ := by
  rintro ds θ N Nx ⟨d, rfl, fn, n⟩
  simp_arith [w_check_set, sp_is_set]
  refine ⟨fn, ?_⟩
  cases h : isSetD d <;> rw [h] at n <;> simp_arith [and_true] at n ⊢ <;> exact n
/-! ### items -/
def itemOk (q : Itm) : Bool := ((decide (1 ≤ q.1) && decide (q.1 ≤ 10)) && ((decide (1 ≤ q.2.1) && decide (q.2.1 ≤ 10)) && (decide (1 ≤ q.2.2) && decide (q.2.2 ≤ 10)))) && (if q.1 = q.2.1 then decide (q.2.2 = 1) else decide (q.1 < q.2.1) && decide ((q.2.1 - q.1) % q.2.2 = 0))
def isItemD : PyData → Bool
  | .tuple [.int a, .int b, .int c] => itemOk (a, b, c)
  | _ => false
def sp_is_item : Spec0 := fun ds N _ => ∃ d, ds = [.py d] ∧ Sz d ∧ N (.py (.bool (isItemD d)))
def w_is_item : WS Unit :=
  wSeq (wIfS (wOrT (wNotT (wT (wIsi "tuple" (wVar 0)))) (wOrT (wT (wOp fNe kEq (wBlt fLen kLen (wCons (wVar 0) (wNil))) (wC (.int 3)))) (wNotT (wT (wBlt fAll kAny (wCons (wLc (wItT (wVar 0)) (wgName 4) (wYes) (wCall0 sp_is_int (wCons (wVar 4) (wCons (wC (.int 1)) (wCons (wC (.int 10)) (wNil))))) [4]) (wNil))))))) (wRet (wC (.bool false))) (wNext)) (wSeq (wUnp [1, 2, 3] (wVar 0)) (wSeq (wIfS (wT (wOp fEq kEq (wVar 1) (wVar 2))) (wRet (wOp fEq kEq (wVar 3) (wC (.int 1)))) (wNext)) (wRet (wAnd (wOp fLt kTrue (wVar 1) (wVar 2)) (wOp fEq kEq (wOp fMod kMod (wOp fSub kTrue (wVar 2) (wVar 1)) (wVar 3)) (wC (.int 0)))))))
theorem item_none {x y z : PyData} (h : intsOf [x, y, z] = none) : isItemD (.tuple [x, y, z]) = false := by
  unfold isItemD
  split
  · rename_i e
    cases e
    cases h
  · rfl
theorem law_is_item : ∀ ds θ N Nx, sp_is_item.up ds θ N Nx → w_is_item (bodyEN N Nx) (startD 5 ds) θ := by
  rintro ds θ N Nx ⟨d, rfl, sz, n⟩
  cases d with
  | tuple ds =>
    have sz : ds.length ≤ 1000000 := sz
    simp_arith [w_is_item]
    by_cases hl : ds.length = 3
    · obtain ⟨x, y, z, rfl⟩ : ∃ x y z, ds = [x, y, z] := by
        match ds, hl with
        | [x, y, z], _ => exact ⟨x, y, z, rfl⟩
      simp_arith [show decide (((([x, y, z] : List PyData).length : Nat) : Int) = 3) = true from rfl]
      refine lcGo_map D.py (fun d => .bool (isIntD 1 10 d)) _ (fun x hx T q => ?_) (le_line sz) ?_
      · simp_arith [sp_is_int]
        exact q
      · have e : [x, y, z].map (fun d => PyData.bool (isIntD 1 10 d)) = ([x, y, z].map (isIntD 1 10)).map PyData.bool := by simp
        rw [e]
        simp_arith [List.all_map, Function.comp_def, id]
        have ha := all_int 1 10 [x, y, z]
        cases hi : intsOf [x, y, z] with
        | none =>
          rw [item_none hi] at n
          rw [hi] at ha
          simp_arith [ha]
          exact n
        | some ns =>
          simp only [hi] at ha
          rw [ha]
          have hd := intsOf_eq hi
          match ns, hd with
          | [a, b, c], hd =>
            cases hd
            simp only [isItemD, itemOk, List.all_cons, List.all_nil, Bool.and_true] at n ⊢
            cases hb : ((decide (1 ≤ a) && decide (a ≤ 10)) && ((decide (1 ≤ b) && decide (b ≤ 10)) && (decide (1 ≤ c) && decide (c ≤ 10)))) with
            | false =>
              rw [hb] at n
              simp_arith [Bool.false_and] at n ⊢
              exact n
            | true =>
              rw [hb] at n
              have hc : 0 < c := by
                simp at hb
                omega
              simp_arith [Bool.true_and] at n ⊢
              by_cases hab : a = b
              · rw [if_pos hab] at n
                simp_arith [hab]
                exact n
              · rw [if_neg hab] at n
                simp_arith [hab]
                cases hlt : decide (a < b) with
                | false =>
                  rw [hlt] at n
                  simp_arith [Bool.false_and] at n ⊢
                  exact n
                | true =>
                  rw [hlt] at n
                  simp_arith [Bool.true_and] at n ⊢
                  exact ⟨hc, n⟩
    · have e : decide (((ds.length : Nat) : Int) = 3) = false := decide_eq_false (by omega)
      simp_arith [e]
      have e2 : isItemD (.tuple ds) = false := by
        unfold isItemD
        split
        · rename_i e
          cases e
          exact absurd rfl hl
        · rfl
      rw [e2] at n
      exact n
  | _ =>
    simp_arith [w_is_item]
    exact n
end RT
end
section
set_option Elab.async false
set_option linter.all false
set_option maxRecDepth 100000
set_option maxHeartbeats 4000000
namespace RT
open PySem PySem.Spec PyProof.Rows L2
local macro_rules | `(tactic| simp_arith [$ts,*] $[$loc]?) => `(tactic| simp only [$ts,*, wVar, wOwn, wC, wOp, wT, wChain, wAndT, wOrT, wNotT, wAnd, wOr, wNot, wIf, wNil, wCons, wDisp, wCall, wCall0, wNoPart, wPart, wSl, wRevL, wBlt, wItL, wItT, wItS, wRg1, wRg2, wEnum, wZip, wLR, wLR2, wYes, wM1, wFmt, wJoined, wIsi, wNeg, wNewD, wOwnCat, wPar2, wNext, wSeq, wNever, wSet, wNew, wAug, wExtend, wAppend, wPut, wFrz, wRet, wRetOwn, wRetN, wDrop, wIfS, wgName, wgTup, wUnp, wRaise, bodyEN, wLc, wFor, wSortSet, e_add_i, e_add_s, e_add_l, e_add_t, e_kadd_i, e_kadd_s, e_kadd_l, e_kadd_t, e_sub, e_kt, e_mul_i, e_mul_l, e_kmul_i, e_kmul_l, e_div, e_kdiv, e_mod, e_kmod, e_cmp, e_eq, e_ne, e_keq, e_is_n, e_is_b, e_isn_n, e_isn_b, e_non_n, e_non_l, e_non_t, e_non_i, e_non_s, e_non_b, e_non_x, e_in_l, e_in_t, e_ni_l, e_ni_t, e_kin_l, e_kin_t, e_kin_s, e_ix_l, e_ix_t, e_ix_s, e_kix_l, e_kix_t, e_kix_s, e_sl_l, e_sl_t, e_sl_s, e_len_l, e_len_t, e_len_s, e_klen_l, e_klen_t, e_klen_s, e_kany, e_list_l, e_list_t, e_tup_l, e_tup_t, e_sum, e_max, e_max2, e_min, e_kne, e_kne2, e_all, e_str, e_kstr, e_int, e_kint, e_split, e_ksplit, e_part, e_kpart, e_join, e_kjoin, e_pys0, e_pys1, e_sa0, e_sa1, e_wipe0, e_wipe1, e_js0, e_js1, e_ty_i, e_ty_b, e_ty_n, e_ty_s, e_ty_l, e_ty_t, e_isi_ii, e_isi_ib, e_isi_in, e_isi_is, e_isi_il, e_isi_it, e_isi_bi, e_isi_bb, e_isi_bn, e_isi_bs, e_isi_bl, e_isi_bt, e_isi_li, e_isi_lb, e_isi_ln, e_isi_ls, e_isi_ll, e_isi_lt, e_isi_ti, e_isi_tb, e_isi_tn, e_isi_ts, e_isi_tl, e_isi_tt, e_isi_si, e_isi_sb, e_isi_sn, e_isi_ss, e_isi_sl, e_isi_st, e_up, e_st0, e_st1, e_st2, exists_eq_left, exists_eq_left', exists_eq_right, exists_eq_right', exists_eq', exists_eq, true_and, and_true, and_self, false_and, and_false, exists_and_left, exists_and_right, exists_const, Option.some.injEq, Option.map_some, Option.map_none, Sl.is.injEq, Sl.own.injEq, D.py.injEq, D.ex.injEq, D.rf.injEq, PyData.int.injEq, PyData.bool.injEq, PyData.str.injEq, PyData.list.injEq, PyData.tuple.injEq, List.cons.injEq, if_true, if_false, eq_self, Bool.false_eq_true, Bool.true_eq_false, Bool.not_true, Bool.not_false, Bool.not_not, List.getElem?_cons_zero, List.getElem?_cons_succ, List.set_cons_zero, List.set_cons_succ, List.length_cons, List.length_nil, List.cons_append, List.nil_append, reduceCtorEq, List.replicate_zero, List.replicate_succ, Nat.reduceAdd, Nat.reduceSub, decide_true, decide_false, intsOf_map', blsOf_map', strsOf_map', map_int_inj, map_str_inj, map_bool_inj, map_itD_inj, itD_iff, sh_int, sh_bool, sh_none, sh_itD, sh_nil, sh_ints, sh_its, eqv_int, eqv_bool, eqv_str, eqv_itD, eqv_ints, eqv_strs, eqv_its, eqv_nil, Nat.zero_le, and_assoc] $[$loc]?)
/-! ### texts -/
def TOk (z : Str) : Prop := PyData.strOk z = true ∧ z.length ≤ 1000000
theorem strOk_iff {z : Str} : PyData.strOk z = true ↔ ∀ c ∈ TL.tl z, c < 0x110000 := by
  unfold PyData.strOk
  rw [← Array.all_toList, List.all_eq_true]
  exact ⟨fun h c hc => of_decide_eq_true (h c hc), fun h c hc => decide_eq_true (h c hc)⟩
theorem strOk_app {a b : Str} : PyData.strOk (a ++ b) = true ↔ PyData.strOk a = true ∧ PyData.strOk b = true := by
  rw [strOk_iff, strOk_iff, strOk_iff, TL.tl_append]
  simp only [List.mem_append]
  exact ⟨fun h => ⟨fun c hc => h c (.inl hc), fun c hc => h c (.inr hc)⟩, fun h c hc => hc.elim (h.1 c) (h.2 c)⟩
theorem TOk.app {a b : Str} (h : TOk (a ++ b)) : TOk a ∧ TOk b := by
  obtain ⟨h1, h2⟩ := h
  rw [PySem.Str.length_append] at h2
  obtain ⟨h3, h4⟩ := strOk_app.mp h1
  exact ⟨⟨h3, by omega⟩, ⟨h4, by omega⟩⟩
theorem TOk.part {z : Str} (y : Str) (h : TOk z) : TOk (Txt.partition z y).1 ∧ TOk (Txt.partition z y).2.1 ∧ TOk (Txt.partition z y).2.2 := by
  have e := PySem.StrLaws.partition_sum z y
  rw [← e] at h
  obtain ⟨h1, h2⟩ := h.app
  obtain ⟨h3, h4⟩ := h1.app
  exact ⟨h3, h4, h2⟩
theorem TOk.sh {z : Str} (h : TOk z) : SeqAt.shaped (.str z) = true := sh_str h.1
/-! ### items -/
def itemsAll : List Itm := ten.flatMap fun a => (a, a, 1) :: (ten.filter fun b => decide (a < b)).flatMap fun b => (ten.filter fun c => decide ((b - a) % c = 0)).map fun c => (a, b, c)
abbrev iStr (i : Int) : Str := Str.ofString (toString i)
def textOf (q : Itm) : Str :=
  if q.1 = q.2.1 then iStr q.1 else if q.2.2 = 1 then ((Str.empty ++ iStr q.1) ++ "-") ++ iStr q.2.1 else ((((Str.empty ++ iStr q.1) ++ "-") ++ iStr q.2.1) ++ "/") ++ iStr q.2.2
def numbersOf (q : Itm) : List Int := ten.filter fun n => decide (q.1 ≤ n) && decide (n ≤ q.2.1) && decide ((n - q.1) % q.2.2 = 0)
theorem ten_of {a : Int} (h : 1 ≤ a ∧ a ≤ 10) : a ∈ ten := by
  simp
  omega
theorem ten_iff {a : Int} : a ∈ ten ↔ 1 ≤ a ∧ a ≤ 10 := by
  simp
  omega
theorem all_triples : ∀ a ∈ ten, ∀ b ∈ ten, ∀ c ∈ ten, itemOk (a, b, c) = decide ((a, b, c) ∈ itemsAll) := by decide +kernel
theorem item_mem {q : Itm} : itemOk q = true ↔ q ∈ itemsAll := by
  constructor
  · intro h
    obtain ⟨a, b, c⟩ := q
    have h' := h
    simp only [itemOk, Bool.and_eq_true, decide_eq_true_eq] at h'
    have := all_triples a (ten_of (by omega)) b (ten_of (by omega)) c (ten_of (by omega))
    rw [h] at this
    exact of_decide_eq_true this.symm
  · intro h
    have : ∀ q ∈ itemsAll, itemOk q = true := by decide +kernel
    exact this q h
theorem rg_items : ∀ q ∈ itemsAll, (q.2.2 ≠ 0 ∧ q.2.2.natAbs < 1073741824 ∧ Builtin.Range.small q.1 (q.2.1 + 1) q.2.2 = true ∧ Builtin.Range.rangeSize q.1 (q.2.1 + 1) q.2.2 = (numbersOf q).length) ∧ rgC q.1 q.2.2 (numbersOf q).length = numbersOf q ∧ (numbersOf q).length ≤ 10 := by decide +kernel
theorem atI_zero {α : Type} (x : α) (xs : List α) : atI (x :: xs) 0 = some x := by
  unfold atI ixN
  rw [if_pos (Int.le_refl 0), if_pos (by simp)]
  rfl
theorem atI_3 {α : Type} (x y z : α) : atI [x, y, z] 0 = some x ∧ atI [x, y, z] 1 = some y ∧ atI [x, y, z] 2 = some z := ⟨rfl, rfl, rfl⟩
def sp_numbers_of : Spec0 := fun ds N _ => ∃ q : Itm, ds = [.py (itD q)] ∧ itemOk q = true ∧ N (.py (.list ((numbersOf q).map .int)))
def w_numbers_of : WS Unit :=
  wRet (wLR (wCons (wOp fIx kIx (wVar 0) (wC (.int 0))) (wCons (wOp fAdd kAdd (wOp fIx kIx (wVar 0) (wC (.int 1))) (wC (.int 1))) (wCons (wOp fIx kIx (wVar 0) (wC (.int 2))) (wNil)))))
theorem law_numbers_of : ∀ ds θ N Nx, sp_numbers_of.up ds θ N Nx → w_numbers_of (bodyEN N Nx) (startD 1 ds) θ := by
  rintro ds θ N Nx ⟨q, rfl, ok, n⟩
  obtain ⟨h1, h2, h3⟩ := rg_items q (item_mem.mp ok)
  simp_arith [w_numbers_of, (atI_3 _ _ _).1, (atI_3 _ _ _).2.1, (atI_3 _ _ _).2.2]
  refine ⟨(numbersOf q).length, h1, by omega, ?_⟩
  rw [h2]
  exact n
def sp_text_of : Spec0 := fun ds N _ => ∃ q : Itm, ds = [.py (itD q)] ∧ itemOk q = true ∧ N (.py (.str (textOf q)))
def w_text_of : WS Unit :=
  wSeq (wUnp [1, 2, 3] (wVar 0)) (wSeq (wIfS (wT (wOp fEq kEq (wVar 1) (wVar 2))) (wRet (wBlt fStr kStr (wCons (wVar 1) (wNil)))) (wNext)) (wRet (wIf (wT (wOp fEq kEq (wVar 3) (wC (.int 1)))) (wJoined [wFmt (wVar 1), wC (.str "-"), wFmt (wVar 2)]) (wJoined [wFmt (wVar 1), wC (.str "-"), wFmt (wVar 2), wC (.str "/"), wFmt (wVar 3)]))))
theorem log2_ten : ∀ i ∈ ten, i.natAbs.log2 < 1920 ∧ (Str.ofString (toString i)).length ≤ 2 := by decide +kernel
theorem item_ten {q : Itm} (h : itemOk q = true) : q.1 ∈ ten ∧ q.2.1 ∈ ten ∧ q.2.2 ∈ ten := by
  simp only [itemOk, Bool.and_eq_true, decide_eq_true_eq] at h
  exact ⟨ten_of (by omega), ten_of (by omega), ten_of (by omega)⟩
theorem law_text_of : ∀ ds θ N Nx, sp_text_of.up ds θ N Nx → w_text_of (bodyEN N Nx) (startD 4 ds) θ := by
  rintro ds θ N Nx ⟨q, rfl, ok, n⟩
  obtain ⟨t1, t2, t3⟩ := item_ten ok
  obtain ⟨a1, a2⟩ := log2_ten _ t1
  obtain ⟨b1, b2⟩ := log2_ten _ t2
  obtain ⟨c1, c2⟩ := log2_ten _ t3
  have el : Str.empty.length = 0 := rfl
  have hd : (("-" : Str).length) = 1 := by decide +kernel
  have hs : (("/" : Str).length) = 1 := by decide +kernel
  have hb : ∀ {n : Nat}, n ≤ 20 → n ≤ sizeLine := fun h => le_line (by omega)
  simp_arith [w_text_of]
  unfold textOf at n
  by_cases h : q.1 = q.2.1
  · rw [if_pos h] at n
    simp_arith [h] at n ⊢
    exact ⟨b1, n⟩
  · rw [if_neg h] at n
    simp_arith [h]
    by_cases h2 : q.2.2 = 1
    · rw [if_pos h2] at n
      simp_arith [h2]
      simp only [PySem.Str.length_append]
      exact .inr ⟨a1, hb (by omega), hb (by omega), .inr ⟨b1, hb (by omega), n⟩⟩
    · rw [if_neg h2] at n
      simp_arith [h2]
      simp only [PySem.Str.length_append]
      exact .inr ⟨a1, hb (by omega), hb (by omega), .inr ⟨b1, hb (by omega), hb (by omega), .inr ⟨c1, hb (by omega), n⟩⟩⟩
end RT
end
section
set_option Elab.async false
set_option linter.all false
set_option maxRecDepth 100000
set_option maxHeartbeats 4000000
namespace RT
open PySem PySem.Spec PyProof.Rows L2
local macro_rules | `(tactic| simp_arith [$ts,*] $[$loc]?) => `(tactic| simp only [$ts,*, wVar, wOwn, wC, wOp, wT, wChain, wAndT, wOrT, wNotT, wAnd, wOr, wNot, wIf, wNil, wCons, wDisp, wCall, wCall0, wNoPart, wPart, wSl, wRevL, wBlt, wItL, wItT, wItS, wRg1, wRg2, wEnum, wZip, wLR, wLR2, wYes, wM1, wFmt, wJoined, wIsi, wNeg, wNewD, wOwnCat, wPar2, wNext, wSeq, wNever, wSet, wNew, wAug, wExtend, wAppend, wPut, wFrz, wRet, wRetOwn, wRetN, wDrop, wIfS, wgName, wgTup, wUnp, wRaise, bodyEN, wLc, wFor, wSortSet, e_add_i, e_add_s, e_add_l, e_add_t, e_kadd_i, e_kadd_s, e_kadd_l, e_kadd_t, e_sub, e_kt, e_mul_i, e_mul_l, e_kmul_i, e_kmul_l, e_div, e_kdiv, e_mod, e_kmod, e_cmp, e_eq, e_ne, e_keq, e_is_n, e_is_b, e_isn_n, e_isn_b, e_non_n, e_non_l, e_non_t, e_non_i, e_non_s, e_non_b, e_non_x, e_in_l, e_in_t, e_ni_l, e_ni_t, e_kin_l, e_kin_t, e_kin_s, e_ix_l, e_ix_t, e_ix_s, e_kix_l, e_kix_t, e_kix_s, e_sl_l, e_sl_t, e_sl_s, e_len_l, e_len_t, e_len_s, e_klen_l, e_klen_t, e_klen_s, e_kany, e_list_l, e_list_t, e_tup_l, e_tup_t, e_sum, e_max, e_max2, e_min, e_kne, e_kne2, e_all, e_str, e_kstr, e_int, e_kint, e_split, e_ksplit, e_part, e_kpart, e_join, e_kjoin, e_pys0, e_pys1, e_sa0, e_sa1, e_wipe0, e_wipe1, e_js0, e_js1, e_ty_i, e_ty_b, e_ty_n, e_ty_s, e_ty_l, e_ty_t, e_isi_ii, e_isi_ib, e_isi_in, e_isi_is, e_isi_il, e_isi_it, e_isi_bi, e_isi_bb, e_isi_bn, e_isi_bs, e_isi_bl, e_isi_bt, e_isi_li, e_isi_lb, e_isi_ln, e_isi_ls, e_isi_ll, e_isi_lt, e_isi_ti, e_isi_tb, e_isi_tn, e_isi_ts, e_isi_tl, e_isi_tt, e_isi_si, e_isi_sb, e_isi_sn, e_isi_ss, e_isi_sl, e_isi_st, e_up, e_st0, e_st1, e_st2, exists_eq_left, exists_eq_left', exists_eq_right, exists_eq_right', exists_eq', exists_eq, true_and, and_true, and_self, false_and, and_false, exists_and_left, exists_and_right, exists_const, Option.some.injEq, Option.map_some, Option.map_none, Sl.is.injEq, Sl.own.injEq, D.py.injEq, D.ex.injEq, D.rf.injEq, PyData.int.injEq, PyData.bool.injEq, PyData.str.injEq, PyData.list.injEq, PyData.tuple.injEq, List.cons.injEq, if_true, if_false, eq_self, Bool.false_eq_true, Bool.true_eq_false, Bool.not_true, Bool.not_false, Bool.not_not, List.getElem?_cons_zero, List.getElem?_cons_succ, List.set_cons_zero, List.set_cons_succ, List.length_cons, List.length_nil, List.cons_append, List.nil_append, reduceCtorEq, List.replicate_zero, List.replicate_succ, Nat.reduceAdd, Nat.reduceSub, decide_true, decide_false, intsOf_map', blsOf_map', strsOf_map', map_int_inj, map_str_inj, map_bool_inj, map_itD_inj, itD_iff, sh_int, sh_bool, sh_none, sh_itD, sh_nil, sh_ints, sh_its, eqv_int, eqv_bool, eqv_str, eqv_itD, eqv_ints, eqv_strs, eqv_its, eqv_nil, Nat.zero_le, and_assoc] $[$loc]?)
/-! ### words -/
def numberIn (w : Str) : Int := match ten.find? fun k => decide (w = iStr k) with
  | some k => k
  | none => 0
theorem numberIn_len {w : Str} (h : numberIn w ≠ 0) : 1 ≤ w.length ∧ w.length ≤ 2 ∧ ∀ c ∈ w.cps.toList, c ∈ (Str.ofString "0123456789").cps.toList := by
  unfold numberIn at h
  split at h
  · rename_i k hk
    have h1 := List.find?_some hk
    have h2 := List.mem_of_find?_eq_some hk
    have : ∀ k ∈ ten, 1 ≤ (iStr k).length ∧ (iStr k).length ≤ 2 ∧ ∀ c ∈ (iStr k).cps.toList, c ∈ (Str.ofString "0123456789").cps.toList := by decide +kernel
    rw [of_decide_eq_true h1]
    exact this k h2
  · exact absurd rfl h
def digs : List Nat := (Str.ofString "0123456789").cps.toList
def digW : List (List Nat) := digs.map (fun c => [c]) ++ digs.flatMap fun c => digs.map fun d => [c, d]
def numChk (l : List Nat) : Bool := match PySem.intText? ⟨l.toArray⟩ with
  | some n => decide (n.natAbs.log2 < 1920) && PyData.strOk (Str.ofString (toString n)) && decide (numberIn ⟨l.toArray⟩ = if Str.ofString (toString n) = ⟨l.toArray⟩ then (if n ≤ 10 then n else 0) else 0)
  | none => false
theorem num_all : digW.all numChk = true := by decide +kernel
theorem digW_of {l : List Nat} (h1 : 1 ≤ l.length) (h2 : l.length ≤ 2) (h : ∀ c ∈ l, c ∈ digs) : l ∈ digW := by
  unfold digW
  match l, h1, h2 with
  | [c], _, _ => exact List.mem_append_left _ (List.mem_map.mpr ⟨c, h c List.mem_cons_self, rfl⟩)
  | [c, d], _, _ => exact List.mem_append_right _ (List.mem_flatMap.mpr ⟨c, h c List.mem_cons_self, List.mem_map.mpr ⟨d, h d (by simp), rfl⟩⟩)
theorem e_in_s (c : Nat) (z : Str) : fIn (.py (.str ⟨#[c]⟩)) (.py (.str z)) = some (.py (.bool (decide (c ∈ z.cps.toList)))) := rfl
def sp_number_in : Spec0 := fun ds N _ => ∃ w : Str, ds = [.py (.str w)] ∧ TOk w ∧ N (.py (.int (numberIn w)))
def w_number_in : WS Unit :=
  wSeq (wIfS (wOrT (wNotT (wT (wChain fLe kTrue fLe kTrue (wC (.int 1)) (wBlt fLen kLen (wCons (wVar 0) (wNil))) (wC (.int 2))))) (wOrT (wNotT (wT (wBlt fAll kAny (wCons (wLc (wItS (wVar 0)) (wgName 1) (wYes) (wOp fIn kIn (wVar 1) (wC (.str "0123456789"))) [1]) (wNil))))) (wT (wOp fNe kEq (wBlt fStr kStr (wCons (wBlt fInt kInt (wCons (wVar 0) (wNil))) (wNil))) (wVar 0))))) (wRet (wC (.int 0))) (wNext)) (wRet (wIf (wT (wOp fLe kTrue (wBlt fInt kInt (wCons (wVar 0) (wNil))) (wC (.int 10)))) (wBlt fInt kInt (wCons (wVar 0) (wNil))) (wC (.int 0))))
theorem law_number_in : ∀ ds θ N Nx, sp_number_in.up ds θ N Nx → w_number_in (bodyEN N Nx) (startD 2 ds) θ := by
  rintro ds θ N Nx ⟨w, rfl, ok, n⟩
  have hl : w.length = w.cps.toList.length := by simp [Str.length]
  simp_arith [w_number_in]
  have hz : w.length ≤ sizeLine := le_line ok.2
  simp_arith [hz]
  cases h1 : decide ((1 : Int) ≤ (w.length : Int)) with
  | false =>
    simp_arith [and_true]
    have e : numberIn w = 0 := Classical.byContradiction fun q => by
      have := numberIn_len q
      simp at h1
      omega
    rw [e] at n
    exact n
  | true =>
    simp_arith [and_true]
    cases h2 : decide ((w.length : Int) ≤ 2) with
    | false =>
      simp_arith [and_true]
      have e : numberIn w = 0 := Classical.byContradiction fun q => by
        have := numberIn_len q
        simp at h2
        omega
      rw [e] at n
      exact n
    | true =>
      simp_arith [and_true]
      refine lcGo_map (fun c => D.py (.str ⟨#[c]⟩)) (fun c => .bool (decide (c ∈ digs))) _ (fun x hx T q => ?_) (by rw [← hl]; exact hz) ?_
      · simp_arith [e_in_s]
        exact q
      · have e : w.cps.toList.map (fun c => PyData.bool (decide (c ∈ digs))) = (w.cps.toList.map (fun c => decide (c ∈ digs))).map PyData.bool := by simp
        rw [e]
        simp_arith [List.all_map, Function.comp_def, id]
        cases h3 : w.cps.toList.all fun c => decide (c ∈ digs) with
        | false =>
          simp_arith [and_true]
          have e : numberIn w = 0 := Classical.byContradiction fun q => by
            have h4 := (numberIn_len q).2.2
            have : (w.cps.toList.all fun c => decide (c ∈ digs)) = true := List.all_eq_true.mpr fun c hc => decide_eq_true (h4 c hc)
            rw [h3] at this
            cases this
          rw [e] at n
          exact n
        | true =>
          have hm : w.cps.toList ∈ digW := digW_of (by rw [← hl]; simp at h1; omega) (by rw [← hl]; simp at h2; omega) fun c hc => of_decide_eq_true (List.all_eq_true.mp h3 c hc)
          have hc := List.all_eq_true.mp num_all _ hm
          have ew : (⟨w.cps.toList.toArray⟩ : Str) = w := TL.mk_tl w
          unfold numChk at hc
          rw [ew] at hc
          cases hi : PySem.intText? w with
          | none => rw [hi] at hc; cases hc
          | some k =>
            rw [hi] at hc
            simp only [Bool.and_eq_true, decide_eq_true_eq] at hc
            obtain ⟨⟨c1, c2⟩, c3⟩ := hc
            rw [c3] at n
            have l640 : w.length ≤ 640 := by simp at h2; omega
            simp_arith [l640, c1, sh_str c2, ok.sh]
            by_cases hs : Str.ofString (toString k) = w
            · simp_arith [hs] at n ⊢
              cases hk : decide (k ≤ 10) with
              | true =>
                simp_arith [and_true]
                rw [if_pos (of_decide_eq_true hk)] at n
                exact n
              | false =>
                simp_arith [and_true]
                rw [if_neg (of_decide_eq_false hk)] at n
                exact n
            · simp_arith [hs] at n ⊢
              exact n
/-! ### an item's text -/
def itemIn (z : Str) : Option Itm := itemsAll.find? fun q => decide (textOf q = z)
/-- as the code looks -/
def itemF (z : Str) (a b c : Int) : Option Itm := if itemOk (a, b, c) = true ∧ textOf (a, b, c) = z then some (a, b, c) else none
def itemC (z : Str) : Option Itm :=
  if (Txt.partition z "/").2.1 = "" then
    (if (Txt.partition (Txt.partition z "/").1 "-").2.1 = "" then itemF z (numberIn (Txt.partition (Txt.partition z "/").1 "-").1) (numberIn (Txt.partition (Txt.partition z "/").1 "-").1) 1
     else itemF z (numberIn (Txt.partition (Txt.partition z "/").1 "-").1) (numberIn (Txt.partition (Txt.partition z "/").1 "-").2.2) 1)
  else if (Txt.partition (Txt.partition z "/").1 "-").2.1 = "" then none
  else if numberIn (Txt.partition z "/").2.2 < 2 then none
  else itemF z (numberIn (Txt.partition (Txt.partition z "/").1 "-").1) (numberIn (Txt.partition (Txt.partition z "/").1 "-").2.2) (numberIn (Txt.partition z "/").2.2)
theorem itemF_some {z : Str} {a b c : Int} {q : Itm} (h : itemF z a b c = some q) : itemOk q = true ∧ textOf q = z := by
  unfold itemF at h
  split at h
  · rename_i hq
    cases h
    exact hq
  · cases h
theorem itemC_all : ∀ q ∈ itemsAll, itemC (textOf q) = some q := by decide +kernel
theorem item_texts : ∀ q ∈ itemsAll, PyData.strOk (textOf q) = true ∧ (textOf q).length ≤ 7 ∧ 1 ≤ (textOf q).length ∧ 44 ∉ TL.tl (textOf q) := by decide +kernel
theorem itemC_some {z : Str} {q : Itm} (h : itemC z = some q) : itemOk q = true ∧ textOf q = z := by
  unfold itemC at h
  split at h
  · split at h
    · exact itemF_some h
    · exact itemF_some h
  · split at h
    · cases h
    · split at h
      · cases h
      · exact itemF_some h
theorem textOf_inj {p q : Itm} (hp : itemOk p = true) (hq : itemOk q = true) (h : textOf p = textOf q) : p = q := by
  have h1 := itemC_all p (item_mem.mp hp)
  have h2 := itemC_all q (item_mem.mp hq)
  rw [h, h2] at h1
  exact (Option.some.inj h1).symm
theorem itemIn_some {z : Str} {q : Itm} : itemIn z = some q ↔ itemOk q = true ∧ textOf q = z := by
  constructor
  · intro h
    exact ⟨item_mem.mpr (List.mem_of_find?_eq_some h), of_decide_eq_true (List.find?_some (p := fun q => decide (textOf q = z)) h)⟩
  · rintro ⟨h1, rfl⟩
    cases h : itemIn (textOf q) with
    | none =>
      have := List.find?_eq_none.mp h q (item_mem.mp h1)
      simp at this
    | some p =>
      have p1 := List.mem_of_find?_eq_some h
      have p2 : textOf p = textOf q := of_decide_eq_true (List.find?_some (p := fun p => decide (textOf p = textOf q)) h)
      rw [textOf_inj (item_mem.mpr p1) h1 p2]
theorem itemC_eq (z : Str) : itemC z = itemIn z := by
  cases h : itemC z with
  | some q => exact (itemIn_some.mpr (itemC_some h)).symm
  | none =>
    cases h2 : itemIn z with
    | none => rfl
    | some q =>
      obtain ⟨h3, rfl⟩ := itemIn_some.mp h2
      rw [itemC_all q (item_mem.mp h3)] at h
      cases h
def optI : Option Itm → PyData
  | some q => itD q
  | none => .none
def sp_item_in : Spec0 := fun ds N _ => ∃ z : Str, ds = [.py (.str z)] ∧ TOk z ∧ N (.py (optI (itemIn z)))
def w_item_in : WS Unit :=
  wSeq (wUnp [3, 4, 5] (wM1 fPart kPart (wVar 0) (wC (.str "/")))) (wSeq (wUnp [6, 7, 8] (wM1 fPart kPart (wVar 3) (wC (.str "-")))) (wSeq (wIfS (wAndT (wT (wOp fNe kEq (wVar 4) (wC (.str "")))) (wOrT (wT (wOp fEq kEq (wVar 7) (wC (.str "")))) (wT (wOp fLt kTrue (wCall0 sp_number_in (wCons (wVar 5) (wNil))) (wC (.int 2)))))) (wRet (wC .none)) (wNext)) (wSeq (wSet 1 (wIf (wT (wOp fNe kEq (wVar 4) (wC (.str "")))) (wCall0 sp_number_in (wCons (wVar 5) (wNil))) (wC (.int 1)))) (wSeq (wSet 2 (wDisp .tuple (wCons (wCall0 sp_number_in (wCons (wVar 6) (wNil))) (wCons (wCall0 sp_number_in (wCons (wIf (wT (wOp fNe kEq (wVar 7) (wC (.str "")))) (wVar 8) (wVar 6)) (wNil))) (wCons (wVar 1) (wNil)))))) (wSeq (wIfS (wOrT (wNotT (wT (wCall0 sp_is_item (wCons (wVar 2) (wNil))))) (wT (wOp fNe kEq (wCall0 sp_text_of (wCons (wVar 2) (wNil))) (wVar 0)))) (wRet (wC .none)) (wNext)) (wRet (wVar 2)))))))
theorem strOk_e : PyData.strOk (Str.ofString "") = true := by decide +kernel
theorem isItemD_it (q : Itm) : isItemD (itD q) = itemOk q := rfl
theorem sz_itD (q : Itm) : Sz (itD q) := by
  show 3 ≤ 1000000
  omega
theorem sz3 (a b c : PyData) : Sz (.tuple [a, b, c]) = True := eq_true (show 3 ≤ 1000000 by omega)
theorem isItem3 (a b c : Int) : isItemD (.tuple [.int a, .int b, .int c]) = itemOk (a, b, c) := rfl
theorem line3 : (3 ≤ sizeLine) = True := eq_true (by decide)
theorem fin_item {N : D → Unit → Prop} {θ : Unit} {z : Str} {a b c : Int} (ok : TOk z) (n : N (.py (optI (itemF z a b c))) ()) : if (!itemOk (a, b, c)) = true then N (.py .none) θ else ∃ q : Itm, a = q.1 ∧ b = q.2.1 ∧ c = q.2.2 ∧ itemOk q = true ∧
    SeqAt.shaped (.str (textOf q)) = true ∧ SeqAt.shaped (.str z) = true ∧ if (!decide (textOf q = z)) = true then N (.py .none) θ else N (.py (.tuple [.int a, .int b, .int c])) θ := by
  unfold itemF at n
  cases hk : itemOk (a, b, c) with
  | false =>
    rw [if_neg (by rw [hk]; simp)] at n
    exact n
  | true =>
    refine ⟨(a, b, c), rfl, rfl, rfl, hk, sh_str (item_texts _ (item_mem.mp hk)).1, ok.sh, ?_⟩
    by_cases ht : textOf (a, b, c) = z
    · rw [if_pos ⟨hk, ht⟩] at n
      simp_arith [ht]
      exact n
    · rw [if_neg (fun h => ht h.2)] at n
      simp_arith [ht]
      exact n
theorem law_item_in : ∀ ds θ N Nx, sp_item_in.up ds θ N Nx → w_item_in (bodyEN N Nx) (startD 9 ds) θ := by
  rintro ds θ N Nx ⟨z, rfl, ok, n⟩
  rw [← itemC_eq] at n
  unfold itemC at n
  obtain ⟨p1, p2, p3⟩ := ok.part "/"
  simp_arith [w_item_in]
  have hz : z.length ≤ sizeLine := le_line ok.2
  refine ⟨by decide +kernel, hz, ?_⟩
  generalize Txt.partition z "/" = p at *
  obtain ⟨head, slash, tail⟩ := p
  simp only at p1 p2 p3 n ⊢
  obtain ⟨r1, r2, r3⟩ := p1.part "-"
  refine ⟨by decide +kernel, le_line p1.2, ?_⟩
  generalize Txt.partition head "-" = r at *
  obtain ⟨first, dash, last⟩ := r
  simp only at r1 r2 r3 n ⊢
  simp_arith [p2.sh, r2.sh, sh_str strOk_e, sp_number_in, sp_is_item, sp_text_of, p3, r1, r3, sz3, isItem3, line3]
  by_cases hs : slash = Str.ofString "" <;> by_cases hd : dash = Str.ofString "" <;> simp_arith [hs, hd] at n ⊢
  · exact fin_item ok n
  · exact fin_item ok n
  · exact n
  · by_cases ht : numberIn tail < 2
    · simp_arith [ht] at n ⊢
      exact n
    · simp_arith [ht] at n ⊢
      exact fin_item ok n
end RT
end
section
set_option Elab.async false
set_option linter.all false
set_option maxRecDepth 100000
set_option maxHeartbeats 4000000
namespace RT
open PySem PySem.Spec PyProof.Rows L2
local macro_rules | `(tactic| simp_arith [$ts,*] $[$loc]?) => `(tactic| simp only [$ts,*, wVar, wOwn, wC, wOp, wT, wChain, wAndT, wOrT, wNotT, wAnd, wOr, wNot, wIf, wNil, wCons, wDisp, wCall, wCall0, wNoPart, wPart, wSl, wRevL, wBlt, wItL, wItT, wItS, wRg1, wRg2, wEnum, wZip, wLR, wLR2, wYes, wM1, wFmt, wJoined, wIsi, wNeg, wNewD, wOwnCat, wPar2, wNext, wSeq, wNever, wSet, wNew, wAug, wExtend, wAppend, wPut, wFrz, wRet, wRetOwn, wRetN, wDrop, wIfS, wgName, wgTup, wUnp, wRaise, bodyEN, wLc, wFor, wSortSet, e_add_i, e_add_s, e_add_l, e_add_t, e_kadd_i, e_kadd_s, e_kadd_l, e_kadd_t, e_sub, e_kt, e_mul_i, e_mul_l, e_kmul_i, e_kmul_l, e_div, e_kdiv, e_mod, e_kmod, e_cmp, e_eq, e_ne, e_keq, e_is_n, e_is_b, e_isn_n, e_isn_b, e_non_n, e_non_l, e_non_t, e_non_i, e_non_s, e_non_b, e_non_x, e_in_l, e_in_t, e_ni_l, e_ni_t, e_kin_l, e_kin_t, e_kin_s, e_ix_l, e_ix_t, e_ix_s, e_kix_l, e_kix_t, e_kix_s, e_sl_l, e_sl_t, e_sl_s, e_len_l, e_len_t, e_len_s, e_klen_l, e_klen_t, e_klen_s, e_kany, e_list_l, e_list_t, e_tup_l, e_tup_t, e_sum, e_max, e_max2, e_min, e_kne, e_kne2, e_all, e_str, e_kstr, e_int, e_kint, e_split, e_ksplit, e_part, e_kpart, e_join, e_kjoin, e_pys0, e_pys1, e_sa0, e_sa1, e_wipe0, e_wipe1, e_js0, e_js1, e_ty_i, e_ty_b, e_ty_n, e_ty_s, e_ty_l, e_ty_t, e_isi_ii, e_isi_ib, e_isi_in, e_isi_is, e_isi_il, e_isi_it, e_isi_bi, e_isi_bb, e_isi_bn, e_isi_bs, e_isi_bl, e_isi_bt, e_isi_li, e_isi_lb, e_isi_ln, e_isi_ls, e_isi_ll, e_isi_lt, e_isi_ti, e_isi_tb, e_isi_tn, e_isi_ts, e_isi_tl, e_isi_tt, e_isi_si, e_isi_sb, e_isi_sn, e_isi_ss, e_isi_sl, e_isi_st, e_up, e_st0, e_st1, e_st2, exists_eq_left, exists_eq_left', exists_eq_right, exists_eq_right', exists_eq', exists_eq, true_and, and_true, and_self, false_and, and_false, exists_and_left, exists_and_right, exists_const, Option.some.injEq, Option.map_some, Option.map_none, Sl.is.injEq, Sl.own.injEq, D.py.injEq, D.ex.injEq, D.rf.injEq, PyData.int.injEq, PyData.bool.injEq, PyData.str.injEq, PyData.list.injEq, PyData.tuple.injEq, List.cons.injEq, if_true, if_false, eq_self, Bool.false_eq_true, Bool.true_eq_false, Bool.not_true, Bool.not_false, Bool.not_not, List.getElem?_cons_zero, List.getElem?_cons_succ, List.set_cons_zero, List.set_cons_succ, List.length_cons, List.length_nil, List.cons_append, List.nil_append, reduceCtorEq, List.replicate_zero, List.replicate_succ, Nat.reduceAdd, Nat.reduceSub, decide_true, decide_false, intsOf_map', blsOf_map', strsOf_map', map_int_inj, map_str_inj, map_bool_inj, map_itD_inj, itD_iff, sh_int, sh_bool, sh_none, sh_itD, sh_nil, sh_ints, sh_its, eqv_int, eqv_bool, eqv_str, eqv_itD, eqv_ints, eqv_strs, eqv_its, eqv_nil, Nat.zero_le, and_assoc] $[$loc]?)
/-! ### texts of several items -/
theorem spl_len (S : List Nat) : ∀ (k : Nat) (acc l : List Nat), ∀ p ∈ TL.spl S k acc l, p.length ≤ acc.length + l.length ∧ ∀ c ∈ p, c ∈ acc ∨ c ∈ l
  | k, acc, [], p, h => by
    rw [TL.spl_nil] at h
    cases List.mem_singleton.mp h
    exact ⟨by simp, fun c hc => .inl hc⟩
  | 0, acc, c :: r, p, h => by
    cases hp : TL.pre S (c :: r) with
    | true =>
      rw [TL.spl_hit hp] at h
      rcases List.mem_cons.mp h with rfl | h
      · exact ⟨by simp, fun c hc => .inl hc⟩
      · obtain ⟨h1, h2⟩ := spl_len S _ [] r p h
        refine ⟨by simp at h1 ⊢; omega, fun c' hc => ?_⟩
        rcases h2 c' hc with q | q
        · cases q
        · exact .inr (List.mem_cons_of_mem _ q)
    | false =>
      rw [TL.spl_miss hp] at h
      obtain ⟨h1, h2⟩ := spl_len S _ _ r p h
      refine ⟨by simp at h1 ⊢; omega, fun c' hc => ?_⟩
      rcases h2 c' hc with q | q
      · rcases List.mem_append.mp q with q | q
        · exact .inl q
        · rw [List.mem_singleton.mp q]
          exact .inr List.mem_cons_self
      · exact .inr (List.mem_cons_of_mem _ q)
  | k + 1, acc, c :: r, p, h => by
    have h' : p ∈ TL.spl S k acc r := h
    obtain ⟨h1, h2⟩ := spl_len S k acc r p h'
    exact ⟨by simp at h1 ⊢; omega, fun c' hc => (h2 c' hc).imp id (List.mem_cons_of_mem _)⟩
theorem TOk.split {z : Str} (h : TOk z) : ∀ p ∈ Txt.split z ",", TOk p := by
  intro p hp
  have e := _root_.SX.split_S (a := TL.tl z) (b := TL.tl ",") (by decide +kernel) (by decide +kernel)
  rw [_root_.SX.S_tl, _root_.SX.S_tl] at e
  rw [e] at hp
  obtain ⟨l, hl, rfl⟩ := List.mem_map.mp hp
  obtain ⟨h1, h2⟩ := spl_len _ _ _ _ l hl
  obtain ⟨h3, h4⟩ := h
  refine ⟨strOk_iff.mpr fun c hc => ?_, ?_⟩
  · rcases h2 c hc with q | q
    · cases q
    · exact strOk_iff.mp h3 c q
  · rw [_root_.SX.S_len]
    rw [TL.len_tl] at h4
    simp only [List.length_nil, Nat.zero_add] at h1
    exact Nat.le_trans h1 h4
def itemsIn (z : Str) : Option (List Itm) := (Txt.split z ",").mapM itemIn
def itemsD : PyData → Option (List Itm)
  | .str z => itemsIn z
  | _ => none
def optL : Option (List Itm) → PyData
  | some l => .list (l.map itD)
  | none => .none
def TFine : PyData → Prop
  | .str z => TOk z
  | _ => True
def sp_items_in : Spec0 := fun ds N _ => ∃ d, ds = [.py d] ∧ TFine d ∧ N (.py (optL (itemsD d)))
def w_items_in : WS Unit :=
  wSeq (wIfS (wNotT (wT (wIsi "str" (wVar 0)))) (wRet (wC .none)) (wNext)) (wSeq (wSet 1 (wLc (wItL (wM1 fSplit kSplit (wVar 0) (wC (.str ",")))) (wgName 2) (wYes) (wCall0 sp_item_in (wCons (wVar 2) (wNil))) [2])) (wRet (wIf (wT (wOp fNi kIn (wC .none) (wVar 1))) (wVar 1) (wC .none))))
theorem mapM_some {α β : Type} {f : α → Option β} : ∀ {xs : List α} {ys : List β}, xs.mapM f = some ys ↔ xs.map f = ys.map some
  | [], ys => by
    simp
  | x :: xs, ys => by
    rw [List.mapM_cons]
    cases h : f x with
    | none => cases ys <;> simp [h]
    | some y =>
      cases h2 : xs.mapM f with
      | none =>
        simp
        cases ys with
        | nil => simp
        | cons y' ys =>
          simp [h]
          intro _ q
          rw [mapM_some.mpr q] at h2
          cases h2
      | some zs =>
        have e := mapM_some.mp h2
        cases ys with
        | nil => simp
        | cons y' ys =>
          simp [h, e]
          intro _
          exact ⟨fun q => by rw [q], fun q => (List.map_inj_right fun x y q => Option.some.inj q).mp q⟩
theorem mapM_none {α β : Type} {f : α → Option β} : ∀ {xs : List α}, xs.mapM f = none ↔ ∃ x ∈ xs, f x = none
  | [] => by simp
  | x :: xs => by
    rw [List.mapM_cons]
    cases h : f x with
    | none => simp [h]
    | some y =>
      have ih := mapM_none (f := f) (xs := xs)
      cases h2 : xs.mapM f with
      | none =>
        obtain ⟨z, hz, e⟩ := ih.mp h2
        simp
        exact .inr ⟨z, hz, e⟩
      | some zs =>
        rw [h2] at ih
        simp [h] at ih ⊢
        exact ih
theorem eqv_none (d : Option Itm) : PyData.eqv (optI d) .none = d.isNone := by
  cases d <;> simp [optI, PyData.eqv]
theorem shp_optI (d : Option Itm) : Shp 1 (optI d) := by
  cases d with
  | none => exact shp_none.mono (by omega)
  | some q => exact shp_itD q
theorem law_items_in : ∀ ds θ N Nx, sp_items_in.up ds θ N Nx → w_items_in (bodyEN N Nx) (startD 3 ds) θ := by
  rintro ds θ N Nx ⟨d, rfl, fn, n⟩
  cases d with
  | str z =>
    have ok : TOk z := fn
    have hl : z.length + 2 ≤ sizeLine := by have := ok.2; exact le_line' (by omega)
    have hp := PyProof.Rows.fact_split z ","
    simp_arith [w_items_in, List.map_map]
    refine ⟨by decide +kernel, hl, ?_⟩
    refine lcGo_map (D.py ∘ PyData.str) (fun p => optI (itemIn p)) _ (fun x hx T q => ?_) (Nat.le_trans hp.2 hl) ?_
    · simp_arith [sp_item_in, Function.comp]
      exact ⟨ok.split x hx, q⟩
    · have sh : SeqAt.shaped (.list ((Txt.split z ",").map fun p => optI (itemIn p))) = true := (shp_map fun x _ => shp_optI _).sh
      simp_arith [sh, List.any_map, Function.comp_def, eqv_none]
      cases hi : itemsIn z with
      | none =>
        obtain ⟨x, hx, e⟩ := mapM_none.mp hi
        have : ((Txt.split z ",").any fun p => (itemIn p).isNone) = true := List.any_eq_true.mpr ⟨x, hx, by rw [e]; rfl⟩
        simp_arith [this]
        simp only [itemsD, hi] at n
        exact n
      | some its =>
        have e := mapM_some.mp hi
        have : ((Txt.split z ",").any fun p => (itemIn p).isNone) = false := by
          cases q : (Txt.split z ",").any fun p => (itemIn p).isNone with
          | false => rfl
          | true =>
            obtain ⟨x, hx, h⟩ := List.any_eq_true.mp q
            have : itemIn x ∈ its.map some := by
              rw [← e]
              exact List.mem_map.mpr ⟨x, hx, rfl⟩
            obtain ⟨y, _, hy⟩ := List.mem_map.mp this
            rw [← hy] at h
            cases h
        simp_arith [this]
        simp only [itemsD, hi, optL] at n
        have e2 : ((Txt.split z ",").map fun p => optI (itemIn p)) = its.map itD := by
          have := congrArg (List.map optI) e
          rw [List.map_map, List.map_map] at this
          exact this
        rw [e2]
        exact n
  | _ =>
    simp_arith [w_items_in]
    exact n
/-! ### sets that items mean -/
def setOf (its : List Itm) : List Int := ten.filter fun n => its.any fun q => decide (n ∈ numbersOf q)
theorem numbersOf_ten {q : Itm} {k : Int} (h : k ∈ numbersOf q) : k ∈ ten := (List.mem_filter.mp h).1
theorem ten_asc : ten.Pairwise (· < ·) := by decide
theorem setOf_asc (its : List Itm) : (setOf its).Pairwise (· < ·) := List.Pairwise.filter _ ten_asc
theorem mem_setOf {its : List Itm} {k : Int} : k ∈ setOf its ↔ ∃ q ∈ its, k ∈ numbersOf q := by
  unfold setOf
  rw [List.mem_filter, List.any_eq_true]
  constructor
  · rintro ⟨_, q, h1, h2⟩
    exact ⟨q, h1, of_decide_eq_true h2⟩
  · rintro ⟨q, h1, h2⟩
    exact ⟨numbersOf_ten h2, q, h1, decide_eq_true h2⟩
theorem setL_ten {ns r : List Int} (h : ∀ k ∈ ns, k ∈ ten) (hr : r.Pairwise (· < ·)) (hm : ∀ k, k ∈ r ↔ k ∈ ns) : setL ns = r :=
  asc_uniq (setL_asc ns) hr fun k => by
    rw [mem_setL (fun k hk => by have := ten_iff.mp (h k hk); omega) k, hm k]
theorem setOf_eq (its : List Itm) : setL (its.flatMap numbersOf) = setOf its := by
  refine setL_ten (fun k hk => ?_) (setOf_asc its) fun k => ?_
  · obtain ⟨q, _, h⟩ := List.mem_flatMap.mp hk
    exact numbersOf_ten h
  · rw [mem_setOf, List.mem_flatMap]
theorem setOf_subs (its : List Itm) : setOf its ∈ subs ten := filter_subs _ _
def sp_set_of : Spec0 := fun ds N _ => ∃ its : List Itm, ds = [.py (.list (its.map itD))] ∧ its.all itemOk = true ∧ its.length ≤ 400 ∧ N (.py (.list ((setOf its).map .int)))
def w_set_of : WS Unit :=
  wSeq (wNew 1) (wSeq (wFor (wItL (wVar 0)) (wgName 2) (wExtend 1 (wCall0 sp_numbers_of (wCons (wVar 2) (wNil))))) (wFrz 1 (wRet (wSortSet (wVar 1)))))
theorem flat_len {its : List Itm} (h : its.all itemOk = true) : (its.flatMap numbersOf).length ≤ 10 * its.length := by
  induction its with
  | nil => simp
  | cons q its ih =>
    simp only [List.all_cons, Bool.and_eq_true] at h
    have h1 := (rg_items q (item_mem.mp h.1)).2.2
    have h2 := ih h.2
    simp only [List.flatMap_cons, List.length_append, List.length_cons]
    omega
theorem law_set_of : ∀ ds θ N Nx, sp_set_of.up ds θ N Nx → w_set_of (bodyEN N Nx) (startD 3 ds) θ := by
  rintro ds θ N Nx ⟨its, rfl, ok, hl, n⟩
  simp_arith [w_set_of, List.map_map]
  refine forGo_inv (D.py ∘ itD) (fun (xs : List Itm) (ρ : DS) (_ : Unit) => ∃ (ys : List Itm) (x : Sl), its = ys ++ xs ∧ ρ = [.is (.py (.list (its.map itD))), .own ((ys.flatMap numbersOf).map .int), x]) (fun q xs ρ θ h R hR => ?_) (fun ρ θ h => ?_) its _ _ ⟨[], .no, rfl, rfl⟩
  · obtain ⟨ys, x, e, rfl⟩ := h
    have okq : itemOk q = true := List.all_eq_true.mp ok q (by rw [e]; simp)
    simp_arith [sp_numbers_of, Function.comp]
    refine ⟨q, rfl, rfl, rfl, okq, ?_, hR _ _ ⟨ys ++ [q], .is (.py (itD q)), by rw [e]; simp, ?_⟩⟩
    · have h1 := flat_len (its := ys) (by
        rw [List.all_eq_true] at ok ⊢
        exact fun z hz => ok z (by rw [e]; exact List.mem_append_left _ hz))
      have h2 := (rg_items q (item_mem.mp okq)).2.2
      have h3 : its.length = ys.length + (xs.length + 1) := by rw [e]; simp
      rw [List.length_map, List.length_map]
      exact le_line (by omega)
    · simp
  · obtain ⟨ys, x, e, rfl⟩ := h
    simp_arith [and_true]
    have ey : ys = its := by rw [e]; simp
    subst ey
    refine ⟨?_, fun k hk => ?_, ?_⟩
    · have := flat_len ok
      omega
    · obtain ⟨q, _, h⟩ := List.mem_flatMap.mp hk
      have := ten_iff.mp (numbersOf_ten h)
      omega
    · rw [setOf_eq]
      exact n
end RT
end
section
set_option Elab.async false
set_option linter.all false
set_option maxRecDepth 100000
set_option maxHeartbeats 4000000
namespace RT
open PySem PySem.Spec PyProof.Rows L2
local macro_rules | `(tactic| simp_arith [$ts,*] $[$loc]?) => `(tactic| simp only [$ts,*, wVar, wOwn, wC, wOp, wT, wChain, wAndT, wOrT, wNotT, wAnd, wOr, wNot, wIf, wNil, wCons, wDisp, wCall, wCall0, wNoPart, wPart, wSl, wRevL, wBlt, wItL, wItT, wItS, wRg1, wRg2, wEnum, wZip, wLR, wLR2, wYes, wM1, wFmt, wJoined, wIsi, wNeg, wNewD, wOwnCat, wPar2, wNext, wSeq, wNever, wSet, wNew, wAug, wExtend, wAppend, wPut, wFrz, wRet, wRetOwn, wRetN, wDrop, wIfS, wgName, wgTup, wUnp, wRaise, bodyEN, wLc, wFor, wSortSet, e_add_i, e_add_s, e_add_l, e_add_t, e_kadd_i, e_kadd_s, e_kadd_l, e_kadd_t, e_sub, e_kt, e_mul_i, e_mul_l, e_kmul_i, e_kmul_l, e_div, e_kdiv, e_mod, e_kmod, e_cmp, e_eq, e_ne, e_keq, e_is_n, e_is_b, e_isn_n, e_isn_b, e_non_n, e_non_l, e_non_t, e_non_i, e_non_s, e_non_b, e_non_x, e_in_l, e_in_t, e_ni_l, e_ni_t, e_kin_l, e_kin_t, e_kin_s, e_ix_l, e_ix_t, e_ix_s, e_kix_l, e_kix_t, e_kix_s, e_sl_l, e_sl_t, e_sl_s, e_len_l, e_len_t, e_len_s, e_klen_l, e_klen_t, e_klen_s, e_kany, e_list_l, e_list_t, e_tup_l, e_tup_t, e_sum, e_max, e_max2, e_min, e_kne, e_kne2, e_all, e_str, e_kstr, e_int, e_kint, e_split, e_ksplit, e_part, e_kpart, e_join, e_kjoin, e_pys0, e_pys1, e_sa0, e_sa1, e_wipe0, e_wipe1, e_js0, e_js1, e_ty_i, e_ty_b, e_ty_n, e_ty_s, e_ty_l, e_ty_t, e_isi_ii, e_isi_ib, e_isi_in, e_isi_is, e_isi_il, e_isi_it, e_isi_bi, e_isi_bb, e_isi_bn, e_isi_bs, e_isi_bl, e_isi_bt, e_isi_li, e_isi_lb, e_isi_ln, e_isi_ls, e_isi_ll, e_isi_lt, e_isi_ti, e_isi_tb, e_isi_tn, e_isi_ts, e_isi_tl, e_isi_tt, e_isi_si, e_isi_sb, e_isi_sn, e_isi_ss, e_isi_sl, e_isi_st, e_up, e_st0, e_st1, e_st2, exists_eq_left, exists_eq_left', exists_eq_right, exists_eq_right', exists_eq', exists_eq, true_and, and_true, and_self, false_and, and_false, exists_and_left, exists_and_right, exists_const, Option.some.injEq, Option.map_some, Option.map_none, Sl.is.injEq, Sl.own.injEq, D.py.injEq, D.ex.injEq, D.rf.injEq, PyData.int.injEq, PyData.bool.injEq, PyData.str.injEq, PyData.list.injEq, PyData.tuple.injEq, List.cons.injEq, if_true, if_false, eq_self, Bool.false_eq_true, Bool.true_eq_false, Bool.not_true, Bool.not_false, Bool.not_not, List.getElem?_cons_zero, List.getElem?_cons_succ, List.set_cons_zero, List.set_cons_succ, List.length_cons, List.length_nil, List.cons_append, List.nil_append, reduceCtorEq, List.replicate_zero, List.replicate_succ, Nat.reduceAdd, Nat.reduceSub, decide_true, decide_false, intsOf_map', blsOf_map', strsOf_map', map_int_inj, map_str_inj, map_bool_inj, map_itD_inj, itD_iff, sh_int, sh_bool, sh_none, sh_itD, sh_nil, sh_ints, sh_its, eqv_int, eqv_bool, eqv_str, eqv_itD, eqv_ints, eqv_strs, eqv_its, eqv_nil, Nat.zero_le, and_assoc] $[$loc]?)
/-! ### texts: the given functions -/
theorem items_ok {d : PyData} {its : List Itm} (h : itemsD d = some its) : its.all itemOk = true := by
  cases d with
  | str z =>
    have e := mapM_some.mp (show (Txt.split z ",").mapM itemIn = some its from h)
    rw [List.all_eq_true]
    intro q hq
    have : some q ∈ (Txt.split z ",").map itemIn := by
      rw [e]
      exact List.mem_map.mpr ⟨q, hq, rfl⟩
    obtain ⟨p, _, hp⟩ := List.mem_map.mp this
    exact (itemIn_some.mp hp).1
  | _ => cases h
theorem optL_some (its : List Itm) : optL (some its) = .list (its.map itD) := rfl
theorem optL_none : optL none = .none := rfl
def sp_check_text : Spec0 := fun ds N Nx => ∃ d, ds = [.py d] ∧ TFine d ∧ (match itemsD d with | some _ => N (.py .none) | none => Nx .text)
def w_check_text : WS Unit :=
  wIfS (wT (wOp fIs kTrue (wCall0 sp_items_in (wCons (wVar 0) (wNil))) (wC .none))) (wRaise .text) (wNext)
theorem law_check_text : ∀ ds θ N Nx, sp_check_text.up ds θ N Nx → w_check_text (bodyEN N Nx) (startD 1 ds) θ := by
  rintro ds θ N Nx ⟨d, rfl, fn, n⟩
  simp_arith [w_check_text, sp_items_in]
  refine ⟨fn, ?_⟩
  cases h : itemsD d <;> simp_arith [h, optL_some, optL_none] at n ⊢ <;> exact n
def sp_parse : Spec0 := fun ds N Nx => ∃ d, ds = [.py d] ∧ TFine d ∧ (match itemsD d with | some its => its.length ≤ 400 ∧ N (.py (.list ((setOf its).map .int))) | none => Nx .text)
def w_parse : WS Unit :=
  wSeq (wDrop (wCall0 sp_check_text (wCons (wVar 0) (wNil)))) (wRet (wCall0 sp_set_of (wCons (wCall0 sp_items_in (wCons (wVar 0) (wNil))) (wNil))))
theorem law_parse : ∀ ds θ N Nx, sp_parse.up ds θ N Nx → w_parse (bodyEN N Nx) (startD 1 ds) θ := by
  rintro ds θ N Nx ⟨d, rfl, fn, n⟩
  simp_arith [w_parse, sp_check_text, sp_items_in]
  refine ⟨fn, ?_⟩
  cases h : itemsD d with
  | none => simp_arith [h] at n ⊢; exact n
  | some its =>
    simp_arith [h, optL_some, sp_set_of] at n ⊢
    exact ⟨fn, items_ok h, n⟩
def sp_items : Spec0 := fun ds N Nx => ∃ d, ds = [.py d] ∧ TFine d ∧ (match itemsD d with | some its => N (.py (.list (its.map itD))) | none => Nx .text)
def w_items : WS Unit :=
  wSeq (wDrop (wCall0 sp_check_text (wCons (wVar 0) (wNil)))) (wRet (wCall0 sp_items_in (wCons (wVar 0) (wNil))))
theorem law_items : ∀ ds θ N Nx, sp_items.up ds θ N Nx → w_items (bodyEN N Nx) (startD 1 ds) θ := by
  rintro ds θ N Nx ⟨d, rfl, fn, n⟩
  simp_arith [w_items, sp_check_text, sp_items_in]
  refine ⟨fn, ?_⟩
  cases h : itemsD d with
  | none => simp_arith [h] at n ⊢; exact n
  | some its =>
    simp_arith [h, optL_some] at n ⊢
    exact ⟨fn, n⟩
def sp_mean_same : Spec0 := fun ds N Nx => ∃ d e, ds = [.py d, .py e] ∧ TFine d ∧ TFine e ∧ (match itemsD d with
  | some its => (match itemsD e with | some jts => its.length ≤ 400 ∧ jts.length ≤ 400 ∧ N (.py (.bool (decide (setOf its = setOf jts)))) | none => Nx .text)
  | none => Nx .text)
def w_mean_same : WS Unit :=
  wSeq (wDrop (wCall0 sp_check_text (wCons (wVar 0) (wNil)))) (wSeq (wDrop (wCall0 sp_check_text (wCons (wVar 1) (wNil)))) (wRet (wOp fEq kEq (wCall0 sp_set_of (wCons (wCall0 sp_items_in (wCons (wVar 0) (wNil))) (wNil))) (wCall0 sp_set_of (wCons (wCall0 sp_items_in (wCons (wVar 1) (wNil))) (wNil))))))
theorem law_mean_same : ∀ ds θ N Nx, sp_mean_same.up ds θ N Nx → w_mean_same (bodyEN N Nx) (startD 2 ds) θ := by
  rintro ds θ N Nx ⟨d, e, rfl, fn, fe, n⟩
  simp_arith [w_mean_same, sp_check_text, sp_items_in]
  refine ⟨fn, ?_⟩
  cases h : itemsD d with
  | none => simp_arith [h] at n ⊢; exact n
  | some its =>
    simp only [h] at n ⊢
    refine ⟨fe, ?_⟩
    cases h2 : itemsD e with
    | none => simp_arith [h2] at n ⊢; exact n
    | some jts =>
      simp_arith [h2, optL_some, sp_set_of] at n ⊢
      exact ⟨fn, items_ok h, n.1, fe, items_ok h2, n.2⟩
/-! ### sets -/
def setD : PyData → Option (List Int)
  | .list ds => match intsOf ds with
    | some ns => if setI ns = true then some ns else none
    | none => none
  | _ => none
theorem isSetD_eq (d : PyData) : isSetD d = (setD d).isSome := by
  cases d with
  | list ds =>
    simp only [isSetD, setD]
    cases intsOf ds with
    | none => rfl
    | some ns =>
      simp only
      cases setI ns <;> rfl
  | _ => rfl
theorem setD_some {d : PyData} {ns : List Int} (h : setD d = some ns) : d = .list (ns.map .int) ∧ setI ns = true := by
  cases d with
  | list ds =>
    simp only [setD] at h
    cases hi : intsOf ds with
    | none => rw [hi] at h; cases h
    | some ms =>
      rw [hi] at h
      simp only at h
      split at h
      · rename_i q
        cases h
        exact ⟨by rw [intsOf_eq hi], q⟩
      · cases h
  | _ => cases h
theorem asc_pair : ∀ {ns : List Int}, ascI ns = true → ns.Pairwise (· < ·)
  | [], _ => .nil
  | [_], _ => List.pairwise_singleton _ _
  | a :: b :: r, h => by
    simp only [ascI, Bool.and_eq_true, decide_eq_true_eq] at h
    have ih := asc_pair h.2
    refine List.pairwise_cons.mpr ⟨fun x hx => ?_, ih⟩
    rcases List.mem_cons.mp hx with rfl | hx
    · exact h.1
    · have := (List.pairwise_cons.mp ih).1 x hx
      omega
theorem subs_asc {ns : List Int} (h : ns ∈ subs ten) : ns.Pairwise (· < ·) := List.Pairwise.sublist (subs_sub h) ten_asc
theorem subs_ten {ns : List Int} (h : ns ∈ subs ten) {k : Int} (hk : k ∈ ns) : k ∈ ten := (subs_sub h).subset hk
theorem setI_iff {ns : List Int} : setI ns = true ↔ ns ∈ subs ten ∧ ns ≠ [] := by
  constructor
  · intro h
    simp only [setI, Bool.and_eq_true, Bool.not_eq_true'] at h
    refine ⟨?_, fun e => by rw [e] at h; exact absurd h.1.1 (by decide)⟩
    have e : ns = ten.filter fun k => decide (k ∈ ns) := asc_uniq (asc_pair h.2) (List.Pairwise.filter _ ten_asc) fun k => by
      rw [List.mem_filter]
      refine ⟨fun hk => ⟨ten_iff.mpr ?_, decide_eq_true hk⟩, fun hk => of_decide_eq_true hk.2⟩
      have := List.all_eq_true.mp h.1.2 k hk
      simpa using this
    rw [e]
    exact filter_subs _ _
  · rintro ⟨h, ne⟩
    have : ∀ ns ∈ subs ten, ns ≠ [] → setI ns = true := by decide +kernel
    exact this ns h ne
theorem setD_ints {ns : List Int} (h : ns ∈ subs ten) (ne : ns ≠ []) : setD (.list (ns.map .int)) = some ns := by
  simp only [setD, intsOf_map', setI_iff.mpr ⟨h, ne⟩, if_true]
theorem subs_len {ns : List Int} (h : ns ∈ subs ten) : ns.length ≤ 10 := (subs_sub h).length_le
theorem fine_ints {ns : List Int} (h : ns.length ≤ 1000000) : Fine (.list (ns.map .int)) := ⟨sh_ints ns, by show (ns.map PyData.int).length ≤ _; rw [List.length_map]; exact h⟩
theorem fine_subs {ns : List Int} (h : ns ∈ subs ten) : Fine (.list (ns.map .int)) := fine_ints (by have := subs_len h; omega)
/-! ### runs -/
def stepRun (acc : List Itm) (one : Int) : List Itm := match acc.getLast? with
  | some q => if q.2.1 = one - 1 then acc.dropLast ++ [(q.1, one, 1)] else acc ++ [(one, one, 1)]
  | none => acc ++ [(one, one, 1)]
def runsOf (ns : List Int) : List Itm := ns.foldl stepRun []
theorem stepRun_len (acc : List Itm) (one : Int) : (stepRun acc one).length ≤ acc.length + 1 := by
  unfold stepRun
  split
  · split
    · simp
    · simp
  · simp
theorem ixN_last {n : Nat} : ixN (n + 1) (-1) = some n := by
  unfold ixN
  rw [if_neg (by decide), if_pos (by omega)]
  congr 1
  omega
theorem atI_last {α : Type} (xs : List α) (x : α) : atI (xs ++ [x]) (-1) = some x := by
  unfold atI
  rw [List.length_append, List.length_singleton, ixN_last]
  simp
theorem set_last {α : Type} (xs : List α) (x y : α) : (xs ++ [x]).set xs.length y = xs ++ [y] := by simp
def sp_runs_of : Spec0 := fun ds N _ => ∃ ns : List Int, ds = [.py (.list (ns.map .int))] ∧ ns.length ≤ 1000 ∧ N (.py (.list ((runsOf ns).map itD)))
def w_runs_of : WS Unit :=
  wSeq (wNew 1) (wSeq (wFor (wItL (wVar 0)) (wgName 2) (wIfS (wAndT (wT (wOp fNe kEq (wOwn 1) (wDisp .list (wNil)))) (wT (wOp fEq kEq (wOp fIx kIx (wOp fIx kIx (wOwn 1) (wNeg (wC (.int 1)))) (wC (.int 1))) (wOp fSub kTrue (wVar 2) (wC (.int 1)))))) (wPut 1 (wDisp .tuple (wCons (wOp fIx kIx (wOp fIx kIx (wOwn 1) (wNeg (wC (.int 1)))) (wC (.int 0))) (wCons (wVar 2) (wCons (wC (.int 1)) (wNil))))) (wNeg (wC (.int 1)))) (wAppend 1 (wDisp .tuple (wCons (wVar 2) (wCons (wVar 2) (wCons (wC (.int 1)) (wNil)))))))) (wFrz 1 (wRet (wVar 1))))
theorem law_runs_of : ∀ ds θ N Nx, sp_runs_of.up ds θ N Nx → w_runs_of (bodyEN N Nx) (startD 3 ds) θ := by
  rintro ds θ N Nx ⟨ns, rfl, hl, n⟩
  simp_arith [w_runs_of, List.map_map]
  refine forGo_inv (D.py ∘ PyData.int) (fun (xs : List Int) (ρ : DS) (_ : Unit) => ∃ (ys : List Int) (x : Sl), ns = ys ++ xs ∧ (runsOf ys).length ≤ ys.length ∧ ρ = [.is (.py (.list (ns.map .int))), .own ((runsOf ys).map itD), x]) (fun q xs ρ θ h R hR => ?_) (fun ρ θ h => ?_) ns _ _ ⟨[], .no, rfl, Nat.le_refl 0, rfl⟩
  · obtain ⟨ys, x, e, hy, rfl⟩ := h
    have el : ns.length = ys.length + (xs.length + 1) := by rw [e]; simp
    have sl : 3 ≤ sizeLine := by decide
    have er : runsOf (ys ++ [q]) = stepRun (runsOf ys) q := by simp [runsOf]
    have hy2 : (runsOf (ys ++ [q])).length ≤ (ys ++ [q]).length := by
      rw [er]
      have := stepRun_len (runsOf ys) q
      simp
      omega
    have nx := hR [.is (.py (.list (ns.map .int))), .own ((runsOf (ys ++ [q])).map itD), .is (.py (.int q))] θ ⟨ys ++ [q], _, by rw [e]; simp, hy2, rfl⟩
    rw [er] at nx
    have hsz : (runsOf ys).length < sizeLine := by have := le_line (n := ns.length) (by omega); omega
    simp_arith [Function.comp]
    rcases List.eq_nil_or_concat (runsOf ys) with en | ⟨acc, p, en⟩
    · rw [en] at nx ⊢
      simp_arith [List.map_nil, List.isEmpty_nil, sl]
      exact ⟨by decide, nx⟩
    · rw [List.concat_eq_append] at en
      rw [en] at nx hsz ⊢
      have ne : (acc.map itD ++ [itD p]).isEmpty = false := by simp
      simp_arith [ne, List.map_append, List.map_cons, List.map_nil, atI_last, (atI_3 _ _ _).1, (atI_3 _ _ _).2.1]
      unfold stepRun at nx
      rw [List.getLast?_concat] at nx
      simp only at nx
      by_cases hq : p.2.1 = q - 1
      · rw [if_pos hq, List.dropLast_concat] at nx
        simp_arith [hq, sl]
        refine ⟨(acc.map itD).length, ?_, ?_⟩
        · rw [List.length_append]
          exact ixN_last
        · rw [set_last]
          simpa using nx
      · rw [if_neg hq] at nx
        simp_arith [hq, sl]
        refine ⟨by simpa using hsz, ?_⟩
        simpa using nx
  · obtain ⟨ys, x, e, hy, rfl⟩ := h
    simp_arith [and_true]
    have ey : ys = ns := by rw [e]; simp
    rw [ey]
    exact n
/-! ### plain texts -/
def plainOf (ns : List Int) : Str := Txt.join "," ((runsOf ns).map textOf)
theorem runs_all : ∀ ns ∈ subs ten, (runsOf ns).all itemOk = true ∧ (runsOf ns).length ≤ 5 := by decide +kernel
def sp_plain_of : Spec0 := fun ds N _ => ∃ ns : List Int, ds = [.py (.list (ns.map .int))] ∧ ns ∈ subs ten ∧ N (.py (.str (plainOf ns)))
def w_plain_of : WS Unit :=
  wRet (wM1 fJoin kJoin (wC (.str ",")) (wLc (wItL (wCall0 sp_runs_of (wCons (wVar 0) (wNil)))) (wgName 1) (wYes) (wCall0 sp_text_of (wCons (wVar 1) (wNil))) [1]))
theorem sum_le {α : Type} (f : α → Nat) (k : Nat) : ∀ xs : List α, (∀ x ∈ xs, f x ≤ k) → (xs.map f).sum ≤ xs.length * k
  | [], _ => by simp
  | x :: xs, h => by
    have h1 := h x List.mem_cons_self
    have h2 := sum_le f k xs fun y hy => h y (List.mem_cons_of_mem _ hy)
    simp only [List.map_cons, List.sum_cons, List.length_cons, Nat.add_mul, Nat.one_mul]
    omega
theorem comma_len : ("," : Str).length = 1 := by decide +kernel
/-- the texts of items, joined -/
theorem joins_ok {its : List Itm} (h : its.all itemOk = true) (hl : its.length ≤ 1000) : ((its.map textOf).map (·.length)).sum + (its.map textOf).length * ("," : Str).length ≤ 16777216 := by
  have := sum_le (fun q => (textOf q).length) 7 its fun q hq => (item_texts q (item_mem.mp (List.all_eq_true.mp h q hq))).2.1
  rw [List.map_map, comma_len, List.length_map]
  simp only [Function.comp_def]
  omega
theorem law_plain_of : ∀ ds θ N Nx, sp_plain_of.up ds θ N Nx → w_plain_of (bodyEN N Nx) (startD 2 ds) θ := by
  rintro ds θ N Nx ⟨ns, rfl, hs, n⟩
  obtain ⟨r1, r2⟩ := runs_all ns hs
  simp_arith [w_plain_of, sp_runs_of, List.map_map]
  refine ⟨by have := subs_len hs; omega, ?_⟩
  refine lcGo_map (D.py ∘ itD) (fun q => .str (textOf q)) _ (fun q hq T t => ?_) (le_line (by omega)) ?_
  · simp_arith [sp_text_of, Function.comp]
    exact ⟨q, rfl, rfl, rfl, List.all_eq_true.mp r1 q hq, t⟩
  · have e : (runsOf ns).map (fun q => PyData.str (textOf q)) = ((runsOf ns).map textOf).map PyData.str := by simp
    rw [e]
    simp_arith [and_true]
    refine ⟨fun ys hy => ?_, n⟩
    subst hy
    exact joins_ok r1 (by omega)
end RT
end
section
set_option Elab.async false
set_option linter.all false
set_option maxRecDepth 100000
set_option maxHeartbeats 4000000
namespace RT
open PySem PySem.Spec PyProof.Rows L2
local macro_rules | `(tactic| simp_arith [$ts,*] $[$loc]?) => `(tactic| simp only [$ts,*, wVar, wOwn, wC, wOp, wT, wChain, wAndT, wOrT, wNotT, wAnd, wOr, wNot, wIf, wNil, wCons, wDisp, wCall, wCall0, wNoPart, wPart, wSl, wRevL, wBlt, wItL, wItT, wItS, wRg1, wRg2, wEnum, wZip, wLR, wLR2, wYes, wM1, wFmt, wJoined, wIsi, wNeg, wNewD, wOwnCat, wPar2, wNext, wSeq, wNever, wSet, wNew, wAug, wExtend, wAppend, wPut, wFrz, wRet, wRetOwn, wRetN, wDrop, wIfS, wgName, wgTup, wUnp, wRaise, bodyEN, wLc, wFor, wSortSet, e_add_i, e_add_s, e_add_l, e_add_t, e_kadd_i, e_kadd_s, e_kadd_l, e_kadd_t, e_sub, e_kt, e_mul_i, e_mul_l, e_kmul_i, e_kmul_l, e_div, e_kdiv, e_mod, e_kmod, e_cmp, e_eq, e_ne, e_keq, e_is_n, e_is_b, e_isn_n, e_isn_b, e_non_n, e_non_l, e_non_t, e_non_i, e_non_s, e_non_b, e_non_x, e_in_l, e_in_t, e_ni_l, e_ni_t, e_kin_l, e_kin_t, e_kin_s, e_ix_l, e_ix_t, e_ix_s, e_kix_l, e_kix_t, e_kix_s, e_sl_l, e_sl_t, e_sl_s, e_len_l, e_len_t, e_len_s, e_klen_l, e_klen_t, e_klen_s, e_kany, e_list_l, e_list_t, e_tup_l, e_tup_t, e_sum, e_max, e_max2, e_min, e_kne, e_kne2, e_all, e_str, e_kstr, e_int, e_kint, e_split, e_ksplit, e_part, e_kpart, e_join, e_kjoin, e_pys0, e_pys1, e_sa0, e_sa1, e_wipe0, e_wipe1, e_js0, e_js1, e_ty_i, e_ty_b, e_ty_n, e_ty_s, e_ty_l, e_ty_t, e_isi_ii, e_isi_ib, e_isi_in, e_isi_is, e_isi_il, e_isi_it, e_isi_bi, e_isi_bb, e_isi_bn, e_isi_bs, e_isi_bl, e_isi_bt, e_isi_li, e_isi_lb, e_isi_ln, e_isi_ls, e_isi_ll, e_isi_lt, e_isi_ti, e_isi_tb, e_isi_tn, e_isi_ts, e_isi_tl, e_isi_tt, e_isi_si, e_isi_sb, e_isi_sn, e_isi_ss, e_isi_sl, e_isi_st, e_up, e_st0, e_st1, e_st2, exists_eq_left, exists_eq_left', exists_eq_right, exists_eq_right', exists_eq', exists_eq, true_and, and_true, and_self, false_and, and_false, exists_and_left, exists_and_right, exists_const, Option.some.injEq, Option.map_some, Option.map_none, Sl.is.injEq, Sl.own.injEq, D.py.injEq, D.ex.injEq, D.rf.injEq, PyData.int.injEq, PyData.bool.injEq, PyData.str.injEq, PyData.list.injEq, PyData.tuple.injEq, List.cons.injEq, if_true, if_false, eq_self, Bool.false_eq_true, Bool.true_eq_false, Bool.not_true, Bool.not_false, Bool.not_not, List.getElem?_cons_zero, List.getElem?_cons_succ, List.set_cons_zero, List.set_cons_succ, List.length_cons, List.length_nil, List.cons_append, List.nil_append, reduceCtorEq, List.replicate_zero, List.replicate_succ, Nat.reduceAdd, Nat.reduceSub, decide_true, decide_false, intsOf_map', blsOf_map', strsOf_map', map_int_inj, map_str_inj, map_bool_inj, map_itD_inj, itD_iff, sh_int, sh_bool, sh_none, sh_itD, sh_nil, sh_ints, sh_its, eqv_int, eqv_bool, eqv_str, eqv_itD, eqv_ints, eqv_strs, eqv_its, eqv_nil, Nat.zero_le, and_assoc] $[$loc]?)
def sp_runs : Spec0 := fun ds N Nx => ∃ d, ds = [.py d] ∧ Fine d ∧ (match setD d with | some ns => N (.py (.list ((runsOf ns).map itD))) | none => Nx .set)
def w_runs : WS Unit :=
  wSeq (wDrop (wCall0 sp_check_set (wCons (wVar 0) (wNil)))) (wRet (wCall0 sp_runs_of (wCons (wVar 0) (wNil))))
theorem law_runs : ∀ ds θ N Nx, sp_runs.up ds θ N Nx → w_runs (bodyEN N Nx) (startD 1 ds) θ := by
  rintro ds θ N Nx ⟨d, rfl, fn, n⟩
  simp_arith [w_runs, sp_check_set]
  refine ⟨fn, ?_⟩
  rw [isSetD_eq]
  cases h : setD d with
  | none => simp_arith [h, Option.isSome_none] at n ⊢; exact n
  | some ns =>
    obtain ⟨rfl, hs⟩ := setD_some h
    simp_arith [h, Option.isSome_some, sp_runs_of] at n ⊢
    have := subs_len (setI_iff.mp hs).1
    exact ⟨by omega, n⟩
def sp_plain : Spec0 := fun ds N Nx => ∃ d, ds = [.py d] ∧ Fine d ∧ (match setD d with | some ns => N (.py (.str (plainOf ns))) | none => Nx .set)
def w_plain : WS Unit :=
  wSeq (wDrop (wCall0 sp_check_set (wCons (wVar 0) (wNil)))) (wRet (wCall0 sp_plain_of (wCons (wVar 0) (wNil))))
theorem law_plain : ∀ ds θ N Nx, sp_plain.up ds θ N Nx → w_plain (bodyEN N Nx) (startD 1 ds) θ := by
  rintro ds θ N Nx ⟨d, rfl, fn, n⟩
  simp_arith [w_plain, sp_check_set]
  refine ⟨fn, ?_⟩
  rw [isSetD_eq]
  cases h : setD d with
  | none => simp_arith [h, Option.isSome_none] at n ⊢; exact n
  | some ns =>
    obtain ⟨rfl, hs⟩ := setD_some h
    simp_arith [h, Option.isSome_some, sp_plain_of] at n ⊢
    exact ⟨(setI_iff.mp hs).1, n⟩
def sp_tidy : Spec0 := fun ds N Nx => ∃ d, ds = [.py d] ∧ TFine d ∧ (match itemsD d with | some its => its.length ≤ 400 ∧ N (.py (.str (plainOf (setOf its)))) | none => Nx .text)
def w_tidy : WS Unit :=
  wSeq (wDrop (wCall0 sp_check_text (wCons (wVar 0) (wNil)))) (wRet (wCall0 sp_plain_of (wCons (wCall0 sp_set_of (wCons (wCall0 sp_items_in (wCons (wVar 0) (wNil))) (wNil))) (wNil))))
theorem law_tidy : ∀ ds θ N Nx, sp_tidy.up ds θ N Nx → w_tidy (bodyEN N Nx) (startD 1 ds) θ := by
  rintro ds θ N Nx ⟨d, rfl, fn, n⟩
  simp_arith [w_tidy, sp_check_text, sp_items_in]
  refine ⟨fn, ?_⟩
  cases h : itemsD d with
  | none => simp_arith [h] at n ⊢; exact n
  | some its =>
    simp_arith [h, optL_some, sp_set_of, sp_plain_of] at n ⊢
    exact ⟨fn, items_ok h, n.1, setOf_subs its, n.2⟩
theorem join_bound {its : List Itm} (h : its.all itemOk = true) : PyData.strOk (Txt.join "," (its.map textOf)) = true ∧ (Txt.join "," (its.map textOf)).length ≤ 8 * its.length := by
  have e := TL.tl_join "," (its.map textOf)
  have hj : Txt.join "," (its.map textOf) = Str.join "," (its.map textOf) := TL.join_eq _ _
  have key : ∀ ls : List (List Nat), (∀ l ∈ ls, l.length ≤ 7 ∧ ∀ c ∈ l, c < 0x110000) → (TL.joinL (TL.tl ",") ls).length ≤ 8 * ls.length ∧ ∀ c ∈ TL.joinL (TL.tl ",") ls, c < 0x110000 := by
    have hc : TL.tl "," = [44] := by decide +kernel
    rw [hc]
    intro ls
    induction ls with
    | nil => intro _; exact ⟨by simp [TL.joinL], fun c h => by cases h⟩
    | cons p r ih =>
      intro h
      obtain ⟨p1, p2⟩ := h p List.mem_cons_self
      have ih := ih fun l hl => h l (List.mem_cons_of_mem _ hl)
      cases r with
      | nil => exact ⟨by simp [TL.joinL]; omega, p2⟩
      | cons q r =>
        show (p ++ ([44] ++ TL.joinL [44] (q :: r))).length ≤ _ ∧ ∀ c ∈ p ++ ([44] ++ TL.joinL [44] (q :: r)), _
        refine ⟨?_, fun c hc => ?_⟩
        · rw [List.length_append, List.length_append]
          have := ih.1
          simp at this ⊢
          omega
        · rcases List.mem_append.mp hc with hc | hc
          · exact p2 c hc
          · rcases List.mem_append.mp hc with hc | hc
            · rw [List.mem_singleton.mp hc]
              decide
            · exact ih.2 c hc
  have k := key ((its.map textOf).map TL.tl) fun l hl => by
    obtain ⟨z, hz, rfl⟩ := List.mem_map.mp hl
    obtain ⟨q, hq, rfl⟩ := List.mem_map.mp hz
    obtain ⟨t1, t2, _⟩ := item_texts q (item_mem.mp (List.all_eq_true.mp h q hq))
    exact ⟨by rw [← TL.len_tl]; exact t2, strOk_iff.mp t1⟩
  rw [← e] at k
  rw [hj]
  refine ⟨strOk_iff.mpr k.2, ?_⟩
  rw [TL.len_tl]
  have := k.1
  simp only [List.length_map] at this
  exact this
theorem TOk.join {its : List Itm} (h : its.all itemOk = true) (hl : its.length ≤ 1000) : TOk (Txt.join "," (its.map textOf)) := ⟨(join_bound h).1, by have := (join_bound h).2; omega⟩
theorem tok_plain {ns : List Int} (h : ns ∈ subs ten) : TOk (plainOf ns) := by
  obtain ⟨r1, r2⟩ := runs_all ns h
  exact TOk.join r1 (by omega)
def sp_is_plain : Spec0 := fun ds N Nx => ∃ d, ds = [.py d] ∧ TFine d ∧ (match itemsD d with | some its => its.length ≤ 400 ∧ ∃ z, d = .str z ∧ N (.py (.bool (decide (plainOf (setOf its) = z)))) | none => Nx .text)
def w_is_plain : WS Unit :=
  wSeq (wDrop (wCall0 sp_check_text (wCons (wVar 0) (wNil)))) (wRet (wOp fEq kEq (wCall0 sp_plain_of (wCons (wCall0 sp_set_of (wCons (wCall0 sp_items_in (wCons (wVar 0) (wNil))) (wNil))) (wNil))) (wVar 0)))
theorem law_is_plain : ∀ ds θ N Nx, sp_is_plain.up ds θ N Nx → w_is_plain (bodyEN N Nx) (startD 1 ds) θ := by
  rintro ds θ N Nx ⟨d, rfl, fn, n⟩
  simp_arith [w_is_plain, sp_check_text, sp_items_in]
  refine ⟨fn, ?_⟩
  cases h : itemsD d with
  | none => simp_arith [h] at n ⊢; exact n
  | some its =>
    simp only [h] at n
    obtain ⟨n1, z, rfl, n2⟩ := n
    have ok : TOk z := fn
    simp_arith [h, optL_some, sp_set_of, sp_plain_of, ok.sh, (tok_plain (setOf_subs its)).sh]
    exact ⟨fn, items_ok h, n1, setOf_subs its, n2⟩
def sp_join_texts : Spec0 := fun ds N Nx => ∃ d e, ds = [.py d, .py e] ∧ TFine d ∧ TFine e ∧ (match itemsD d with
  | some its => (match itemsD e with | some jts => its.length + jts.length ≤ 400 ∧ N (.py (.str (plainOf (setOf (its ++ jts))))) | none => Nx .text)
  | none => Nx .text)
def w_join_texts : WS Unit :=
  wSeq (wDrop (wCall0 sp_check_text (wCons (wVar 0) (wNil)))) (wSeq (wDrop (wCall0 sp_check_text (wCons (wVar 1) (wNil)))) (wRet (wCall0 sp_plain_of (wCons (wCall0 sp_set_of (wCons (wOp fAdd kAdd (wCall0 sp_items_in (wCons (wVar 0) (wNil))) (wCall0 sp_items_in (wCons (wVar 1) (wNil)))) (wNil))) (wNil)))))
theorem law_join_texts : ∀ ds θ N Nx, sp_join_texts.up ds θ N Nx → w_join_texts (bodyEN N Nx) (startD 2 ds) θ := by
  rintro ds θ N Nx ⟨d, e, rfl, fn, fe, n⟩
  simp_arith [w_join_texts, sp_check_text, sp_items_in]
  refine ⟨fn, ?_⟩
  cases h : itemsD d with
  | none => simp_arith [h] at n ⊢; exact n
  | some its =>
    simp only [h] at n ⊢
    refine ⟨fe, ?_⟩
    cases h2 : itemsD e with
    | none => simp_arith [h2] at n ⊢; exact n
    | some jts =>
      simp_arith [h2, optL_some, sp_set_of, sp_plain_of, ← List.map_append] at n ⊢
      refine ⟨fn, fe, ?_, ?_⟩
      · rw [List.length_map, List.length_map]
        exact le_line (by omega)
      · exact ⟨by rw [List.all_append, items_ok h, items_ok h2]; rfl, by rw [List.length_append]; exact n.1, setOf_subs _, n.2⟩
def holesOf (ns : List Int) : List Int := ten.filter fun k => decide (ns.headD 0 ≤ k) && decide (k ≤ ns.getLastD 0) && !decide (k ∈ ns)
theorem holes_rg : ∀ ns ∈ subs ten, ns ≠ [] → atI ns 0 = some (ns.headD 0) ∧ atI ns (-1) = some (ns.getLastD 0) ∧ (1 ≤ ns.headD 0 ∧ ns.headD 0 ≤ 10) ∧ (1 ≤ ns.getLastD 0 ∧ ns.getLastD 0 ≤ 10) ∧
    (((List.range ((ns.getLastD 0 + 1) - ns.headD 0).toNat).map fun i : Nat => ns.headD 0 + (i : Int)).filter fun k => !decide (k ∈ ns)) = holesOf ns := by decide +kernel
theorem any_ints (i : Int) (ns : List Int) : ((ns.map PyData.int).any fun z => PyData.eqv z (.int i)) = decide (i ∈ ns) := by
  rw [List.any_map]
  simp only [Function.comp_def, eqv_int]
  cases h : decide (i ∈ ns) with
  | true => exact List.any_eq_true.mpr ⟨i, of_decide_eq_true h, decide_eq_true rfl⟩
  | false =>
    have := of_decide_eq_false h
    cases q : ns.any fun x => decide (x = i) with
    | false => rfl
    | true =>
      obtain ⟨x, hx, e⟩ := List.any_eq_true.mp q
      rw [of_decide_eq_true e] at hx
      exact absurd hx this
def rgI (lo : Int) (n : Nat) : List Int := (List.range n).map fun i : Nat => lo + (i : Int)
theorem rgD_eq (lo : Int) (n : Nat) : rgD lo n = (rgI lo n).map .int := by
  unfold rgD rgI
  rw [List.map_map]
  rfl
theorem atI_map {α β : Type} (f : α → β) (xs : List α) (i : Int) : atI (xs.map f) i = (atI xs i).map f := by
  unfold atI
  rw [List.length_map]
  cases ixN xs.length i <;> simp
def sp_gaps : Spec0 := fun ds N Nx => ∃ d, ds = [.py d] ∧ Fine d ∧ (match setD d with | some ns => N (.py (.list ((runsOf (holesOf ns)).map itD))) | none => Nx .set)
def w_gaps : WS Unit :=
  wSeq (wDrop (wCall0 sp_check_set (wCons (wVar 0) (wNil)))) (wRet (wCall0 sp_runs_of (wCons (wLc (wRg2 (wCons (wOp fIx kIx (wVar 0) (wC (.int 0))) (wCons (wOp fAdd kAdd (wOp fIx kIx (wVar 0) (wNeg (wC (.int 1)))) (wC (.int 1))) (wNil)))) (wgName 1) (wT (wOp fNi kIn (wVar 1) (wVar 0))) (wVar 1) [1]) (wNil))))
theorem law_gaps : ∀ ds θ N Nx, sp_gaps.up ds θ N Nx → w_gaps (bodyEN N Nx) (startD 2 ds) θ := by
  rintro ds θ N Nx ⟨d, rfl, fn, n⟩
  simp_arith [w_gaps, sp_check_set]
  refine ⟨fn, ?_⟩
  rw [isSetD_eq]
  cases h : setD d with
  | none => simp_arith [h, Option.isSome_none] at n ⊢; exact n
  | some ns =>
    obtain ⟨rfl, hs⟩ := setD_some h
    obtain ⟨h1, h2⟩ := setI_iff.mp hs
    obtain ⟨a0, a1, b0, b1, hh⟩ := holes_rg ns h1 h2
    simp_arith [h, Option.isSome_some, atI_map, a0, a1, rgD_eq, List.map_map] at n ⊢
    refine ⟨by omega, by omega, by omega, by omega, ?_⟩
    refine lcGo_fm (D.py ∘ PyData.int) (fun k => !decide (k ∈ ns)) PyData.int _ [] (fun k hk T F q => ?_) ?_ ?_
    · simp_arith [Function.comp, any_ints]
      exact q
    · simp only [rgI, List.length_nil, List.length_map, List.length_range]
      exact le_line (by omega)
    · simp_arith [List.nil_append, rgI, hh, sp_runs_of]
      refine ⟨?_, n⟩
      have : (holesOf ns).length ≤ 10 := List.length_filter_le _ _
      omega
/-! ### needless -/
def needP (its : List Itm) (i : Nat) : Bool := !(its.take i ++ its.drop (i + 1)).isEmpty && decide (setOf (its.take i ++ its.drop (i + 1)) = setOf its)
def needTo (its : List Itm) (n : Nat) : List Int := ((List.range n).filter (needP its)).map fun i : Nat => (i : Int)
def needlessOf (its : List Itm) : List Int := needTo its its.length
theorem enD_zip {α : Type} (f : α → PyData) : ∀ (xs : List α) (k : Nat), enD k (xs.map f) = (xs.zipIdx k).map fun p => .tuple [.int (p.2 : Nat), f p.1]
  | [], _ => rfl
  | x :: xs, k => by simp [enD, enD_zip f xs (k + 1)]
theorem cutD_take {α : Type} {xs : List α} {i : Nat} (h : i ≤ xs.length) : cutD xs none (some (i : Int)) = xs.take i := by
  unfold cutD
  rw [HT.sIx_none, HT.sIx_nat, Nat.min_eq_left h]
  simp
theorem cutD_drop {α : Type} {xs : List α} {i : Nat} (h : i ≤ xs.length) : cutD xs (some (i : Int)) none = xs.drop i := by
  unfold cutD
  rw [HT.sIx_none, HT.sIx_nat, Nat.min_eq_left h]
  exact List.take_of_length_le (by simp)
theorem needTo_succ (its : List Itm) (i : Nat) : needTo its (i + 1) = if needP its i = true then needTo its i ++ [(i : Int)] else needTo its i := by
  unfold needTo
  rw [List.range_succ, List.filter_append]
  cases h : needP its i <;> simp [h]
theorem needTo_len (its : List Itm) (i : Nat) : (needTo its i).length ≤ i := by
  unfold needTo
  rw [List.length_map]
  have := List.length_filter_le (needP its) (List.range i)
  simpa using this
def sp_needless : Spec0 := fun ds N Nx => ∃ d, ds = [.py d] ∧ TFine d ∧ (match itemsD d with | some its => its.length ≤ 400 ∧ N (.py (.list ((needlessOf its).map .int))) | none => Nx .text)
def w_needless : WS Unit :=
  wSeq (wDrop (wCall0 sp_check_text (wCons (wVar 0) (wNil)))) (wSeq (wSet 1 (wCall0 sp_items_in (wCons (wVar 0) (wNil)))) (wSeq (wNew 2) (wSeq (wFor (wEnum (wCons (wVar 1) (wNil))) (wgTup [3, 4]) (wSeq (wSet 5 (wOp fAdd kAdd (wSl (wVar 1) (wNoPart) (wPart (wVar 3))) (wSl (wVar 1) (wPart (wOp fAdd kAdd (wVar 3) (wC (.int 1)))) (wNoPart)))) (wIfS (wAndT (wT (wOp fNe kEq (wVar 5) (wDisp .list (wNil)))) (wT (wOp fEq kEq (wCall0 sp_set_of (wCons (wVar 5) (wNil))) (wCall0 sp_set_of (wCons (wVar 1) (wNil)))))) (wAppend 2 (wVar 3)) (wNext)))) (wFrz 2 (wRet (wVar 2))))))
theorem law_needless : ∀ ds θ N Nx, sp_needless.up ds θ N Nx → w_needless (bodyEN N Nx) (startD 6 ds) θ := by
  rintro ds θ N Nx ⟨d, rfl, fn, n⟩
  simp_arith [w_needless, sp_check_text, sp_items_in]
  refine ⟨fn, ?_⟩
  cases h : itemsD d with
  | none => simp_arith [h] at n ⊢; exact n
  | some its =>
    simp_arith [h, optL_some, enD_zip, List.map_map] at n ⊢
    obtain ⟨hl, n⟩ := n
    refine ⟨fn, ?_⟩
    have ok := items_ok h
    refine forGo_inv (D.py ∘ fun p : Itm × Nat => .tuple [.int (p.2 : Nat), itD p.1]) (fun (xs : List (Itm × Nat)) (ρ : DS) (_ : Unit) => ∃ (i : Nat) (s3 s4 s5 : Sl), xs = its.zipIdx.drop i ∧ i ≤ its.length ∧
      ρ = [.is (.py d), .is (.py (.list (its.map itD))), .own ((needTo its i).map .int), s3, s4, s5]) (fun p xs ρ θ h R hR => ?_) (fun ρ θ h => ?_) _ _ _ ⟨0, .no, .no, .no, rfl, Nat.zero_le _, rfl⟩
    · obtain ⟨i, s3, s4, s5, e, hi, rfl⟩ := h
      have lt : i < its.length := by
        refine Nat.lt_of_le_of_ne hi fun q => ?_
        rw [q] at e
        have : its.zipIdx.drop its.length = [] := List.drop_eq_nil_of_le (by simp)
        rw [this] at e
        cases e
      have lt' : i < its.zipIdx.length := by simpa using lt
      rw [List.drop_eq_getElem_cons lt'] at e
      injection e with e1 e2
      have ep : p = (its[i], i) := by
        rw [e1, List.getElem_zipIdx]
        simp
      subst ep
      have c1 : cutD (its.map itD) none (some (i : Int)) = (its.take i).map itD := by rw [cutD_take (by rw [List.length_map]; omega), List.map_take]
      have c2 : cutD (its.map itD) (some ((i : Int) + 1)) none = (its.drop (i + 1)).map itD := by
        have := cutD_drop (xs := its.map itD) (i := i + 1) (by rw [List.length_map]; omega)
        rw [Int.natCast_add] at this
        rw [List.map_drop]
        exact this
      have nx := fun ρ' s3 s4 s5 (h : ρ' = [.is (.py d), .is (.py (.list (its.map itD))), .own ((needTo its (i + 1)).map .int), s3, s4, s5]) => hR ρ' θ ⟨i + 1, s3, s4, s5, e2, lt, h⟩
      have al : (its.take i ++ its.drop (i + 1)).all itemOk = true := by
        rw [List.all_eq_true] at ok ⊢
        intro q hq
        rcases List.mem_append.mp hq with hq | hq
        · exact ok q (List.mem_of_mem_take hq)
        · exact ok q (List.mem_of_mem_drop hq)
      have ll : (its.take i ++ its.drop (i + 1)).length ≤ 400 := by simp; omega
      have sz : ((its.take i).map itD).length + ((its.drop (i + 1)).map itD).length ≤ sizeLine := by
        rw [List.length_map, List.length_map, ← List.length_append]
        exact le_line (by omega)
      have n0 := needTo_len its i
      simp_arith [Function.comp, c1, c2, sz, ← List.map_append, List.isEmpty_map]
      rw [needTo_succ] at nx
      unfold needP at nx
      cases he : (its.take i ++ its.drop (i + 1)).isEmpty with
      | true =>
        rw [he] at nx
        simp_arith [Bool.false_and] at nx ⊢
        exact nx _ _ _ _ rfl
      | false =>
        rw [he] at nx
        simp_arith [Bool.true_and, sp_set_of] at nx ⊢
        refine ⟨al, ll, ok, hl, ?_⟩
        by_cases hq : setOf (its.take i ++ its.drop (i + 1)) = setOf its
        · simp_arith [hq] at nx ⊢
          refine ⟨?_, nx _ _ _ _ (by rw [List.map_append (f := PyData.int) (l₁ := needTo its i)]; rfl)⟩
          rw [List.length_map]
          have := le_line (n := its.length) (by omega)
          omega
        · simp_arith [hq] at nx ⊢
          exact nx _ _ _ _ rfl
    · obtain ⟨i, s3, s4, s5, e, hi, rfl⟩ := h
      have : i = its.length := by
        have := congrArg List.length e
        simp at this
        omega
      subst this
      simp_arith [and_true]
      exact n
end RT
end
section
set_option Elab.async false
set_option linter.all false
set_option maxRecDepth 100000
set_option maxHeartbeats 4000000
namespace RT
open PySem PySem.Spec PyProof.Rows L2
local macro_rules | `(tactic| simp_arith [$ts,*] $[$loc]?) => `(tactic| simp only [$ts,*, wVar, wOwn, wC, wOp, wT, wChain, wAndT, wOrT, wNotT, wAnd, wOr, wNot, wIf, wNil, wCons, wDisp, wCall, wCall0, wNoPart, wPart, wSl, wRevL, wBlt, wItL, wItT, wItS, wRg1, wRg2, wEnum, wZip, wLR, wLR2, wYes, wM1, wFmt, wJoined, wIsi, wNeg, wNewD, wOwnCat, wPar2, wNext, wSeq, wNever, wSet, wNew, wAug, wExtend, wAppend, wPut, wFrz, wRet, wRetOwn, wRetN, wDrop, wIfS, wgName, wgTup, wUnp, wRaise, bodyEN, wLc, wFor, wSortSet, e_add_i, e_add_s, e_add_l, e_add_t, e_kadd_i, e_kadd_s, e_kadd_l, e_kadd_t, e_sub, e_kt, e_mul_i, e_mul_l, e_kmul_i, e_kmul_l, e_div, e_kdiv, e_mod, e_kmod, e_cmp, e_eq, e_ne, e_keq, e_is_n, e_is_b, e_isn_n, e_isn_b, e_non_n, e_non_l, e_non_t, e_non_i, e_non_s, e_non_b, e_non_x, e_in_l, e_in_t, e_ni_l, e_ni_t, e_kin_l, e_kin_t, e_kin_s, e_ix_l, e_ix_t, e_ix_s, e_kix_l, e_kix_t, e_kix_s, e_sl_l, e_sl_t, e_sl_s, e_len_l, e_len_t, e_len_s, e_klen_l, e_klen_t, e_klen_s, e_kany, e_list_l, e_list_t, e_tup_l, e_tup_t, e_sum, e_max, e_max2, e_min, e_kne, e_kne2, e_all, e_str, e_kstr, e_int, e_kint, e_split, e_ksplit, e_part, e_kpart, e_join, e_kjoin, e_pys0, e_pys1, e_sa0, e_sa1, e_wipe0, e_wipe1, e_js0, e_js1, e_ty_i, e_ty_b, e_ty_n, e_ty_s, e_ty_l, e_ty_t, e_isi_ii, e_isi_ib, e_isi_in, e_isi_is, e_isi_il, e_isi_it, e_isi_bi, e_isi_bb, e_isi_bn, e_isi_bs, e_isi_bl, e_isi_bt, e_isi_li, e_isi_lb, e_isi_ln, e_isi_ls, e_isi_ll, e_isi_lt, e_isi_ti, e_isi_tb, e_isi_tn, e_isi_ts, e_isi_tl, e_isi_tt, e_isi_si, e_isi_sb, e_isi_sn, e_isi_ss, e_isi_sl, e_isi_st, e_up, e_st0, e_st1, e_st2, exists_eq_left, exists_eq_left', exists_eq_right, exists_eq_right', exists_eq', exists_eq, true_and, and_true, and_self, false_and, and_false, exists_and_left, exists_and_right, exists_const, Option.some.injEq, Option.map_some, Option.map_none, Sl.is.injEq, Sl.own.injEq, D.py.injEq, D.ex.injEq, D.rf.injEq, PyData.int.injEq, PyData.bool.injEq, PyData.str.injEq, PyData.list.injEq, PyData.tuple.injEq, List.cons.injEq, if_true, if_false, eq_self, Bool.false_eq_true, Bool.true_eq_false, Bool.not_true, Bool.not_false, Bool.not_not, List.getElem?_cons_zero, List.getElem?_cons_succ, List.set_cons_zero, List.set_cons_succ, List.length_cons, List.length_nil, List.cons_append, List.nil_append, reduceCtorEq, List.replicate_zero, List.replicate_succ, Nat.reduceAdd, Nat.reduceSub, decide_true, decide_false, intsOf_map', blsOf_map', strsOf_map', map_int_inj, map_str_inj, map_bool_inj, map_itD_inj, itD_iff, sh_int, sh_bool, sh_none, sh_itD, sh_nil, sh_ints, sh_its, eqv_int, eqv_bool, eqv_str, eqv_itD, eqv_ints, eqv_strs, eqv_its, eqv_nil, Nat.zero_le, and_assoc] $[$loc]?)
/-! ### the law's own defs -/
def spd_pick : Spec DrawSt := fun ds θ N _ => ∃ (a : Addr) (cs : List PyData), ds = [.rf a, .py (.list cs)] ∧ θ = .on a ∧ cs ≠ [] ∧ cs.length ≤ 1000000 ∧ ∀ d ∈ cs, N (.py d) (.on a)
def w__law_pick : WS DrawSt :=
  wRet (wOp fIx kIx (wVar 1) (wCall spd_draw (wCons (wVar 0) (wCons (wBlt fLen kLen (wCons (wVar 1) (wNil))) (wNil)))))
theorem atI_mem {α : Type} {xs : List α} {i : Int} (h0 : 0 ≤ i) (h1 : i < xs.length) : ∃ x ∈ xs, atI xs i = some x := by
  have : xs[i.toNat]? = some (xs[i.toNat]'(by omega)) := List.getElem?_eq_getElem _
  exact ⟨_, List.getElem_mem _, atI_nat h0 this⟩
theorem law_pick : ∀ ds θ N Nx, spd_pick ds θ N Nx → w__law_pick (bodyEN N Nx) (startD 2 ds) θ := by
  rintro ds θ N Nx ⟨a, cs, rfl, rfl, ne, hl, n⟩
  simp_arith [w__law_pick, spd_draw]
  have h0 : 0 < cs.length := List.length_pos_iff.mpr ne
  refine ⟨by omega, by omega, fun i i0 i1 => ?_⟩
  obtain ⟨x, hx, e⟩ := atI_mem i0 i1
  simp_arith [e]
  exact n x hx
def sp__law_true : Spec0 := fun ds N _ => ∃ b c : Bool, ds = [.py (.bool b), .py (.bool c)] ∧ N (.py (.bool (decide (b = c))))
def w__law_true : WS Unit :=
  wRet (wAnd (wIsi "bool" (wVar 0)) (wOp fEq kEq (wVar 0) (wVar 1)))
theorem law_true : ∀ ds θ N Nx, sp__law_true.up ds θ N Nx → w__law_true (bodyEN N Nx) (startD 2 ds) θ := by
  rintro ds θ N Nx ⟨b, c, rfl, n⟩
  simp_arith [w__law_true]
  exact n
/-- the numbers up to m -/
def upTo (m : Int) : List Int := rgI 1 m.toNat
def spd_set : Spec DrawSt := fun ds θ N _ => ∃ (a : Addr) (m : Int), ds = [.rf a, .py (.int m)] ∧ θ = .on a ∧ 1 ≤ m ∧ m ≤ 1000 ∧ ∀ ns ∈ subs (upTo m), ns ≠ [] → N (.py (.list (ns.map .int))) (.on a)
def w__law_set : WS DrawSt :=
  wSeq (wNew 2) (wSeq (wSet 3 (wCall spd_pick (wCons (wVar 0) (wCons (wDisp .list (wCons (wC (.int 2)) (wCons (wC (.int 2)) (wCons (wC (.int 4)) (wNil))))) (wNil))))) (wSeq (wFor (wRg2 (wCons (wC (.int 1)) (wCons (wOp fAdd kAdd (wVar 1) (wC (.int 1))) (wNil)))) (wgName 4) (wIfS (wT (wOp fGt kTrue (wCall spd_draw (wCons (wVar 0) (wCons (wVar 3) (wNil)))) (wC (.int 0)))) (wAppend 2 (wVar 4)) (wNext))) (wFrz 2 (wRet (wIf (wT (wOp fNe kEq (wVar 2) (wDisp .list (wNil)))) (wVar 2) (wDisp .list (wCons (wOp fAdd kAdd (wC (.int 1)) (wCall spd_draw (wCons (wVar 0) (wCons (wVar 1) (wNil))))) (wNil))))))))
theorem mem_upTo {m k : Int} (h : 1 ≤ m) : k ∈ upTo m ↔ 1 ≤ k ∧ k ≤ m := by
  unfold upTo rgI
  rw [List.mem_map]
  constructor
  · rintro ⟨i, hi, rfl⟩
    have := List.mem_range.mp hi
    omega
  · intro h
    exact ⟨(k - 1).toNat, List.mem_range.mpr (by omega), by omega⟩
theorem sub_snoc {α : Type} {ys xs zs : List α} {x : α} (h : ys.Sublist xs) (e : zs = xs ++ [x]) : (ys ++ [x]).Sublist zs ∧ ys.Sublist zs := by
  subst e
  exact ⟨h.append (List.Sublist.refl _), h.trans (List.sublist_append_left _ _)⟩
theorem law_set : ∀ ds θ N Nx, spd_set ds θ N Nx → w__law_set (bodyEN N Nx) (startD 5 ds) θ := by
  rintro ds θ N Nx ⟨a, m, rfl, rfl, m1, m2, n⟩
  have l3 : (3 ≤ sizeLine) = True := eq_true (by decide)
  have l1 : (1 ≤ sizeLine) = True := eq_true (by decide)
  simp_arith [w__law_set, spd_pick, l3, rgD_eq, List.map_map]
  refine ⟨by simp, by simp, fun d hd => ?_⟩
  obtain ⟨w, rfl, w1, w2⟩ : ∃ w : Int, d = .int w ∧ 0 < w ∧ w < 10 := by
    simp at hd
    rcases hd with rfl | rfl
    · exact ⟨2, rfl, by omega, by omega⟩
    · exact ⟨4, rfl, by omega, by omega⟩
  refine ⟨by omega, by omega, by omega, by omega, ?_⟩
  have em : (m + 1 - 1).toNat = m.toNat := by omega
  rw [em]
  refine forGo_inv (D.py ∘ PyData.int) (fun (xs : List Int) (ρ : DS) (θ : DrawSt) => θ = .on a ∧ ∃ (ys zs : List Int) (s : Sl), upTo m = zs ++ xs ∧ ys.Sublist zs ∧ ρ = [.is (.rf a), .is (.py (.int m)), .own (ys.map .int), .is (.py (.int w)), s])
    (fun q xs ρ θ h R hR => ?_) (fun ρ θ h => ?_) _ _ _ ⟨rfl, [], [], .no, rfl, .slnil, rfl⟩
  · obtain ⟨rfl, ys, zs, s, e, hy, rfl⟩ := h
    have hz : ys.length < 1000 := by
      have h1 := hy.length_le
      have h2 := congrArg List.length e
      simp [upTo, rgI] at h2
      omega
    simp_arith [spd_draw, Function.comp]
    refine ⟨w1, by omega, fun i i0 i1 => ?_⟩
    obtain ⟨s1, s2⟩ := sub_snoc (x := q) hy rfl
    cases hd : decide (i > 0) with
    | true =>
      simp_arith [and_true]
      refine ⟨?_, hR _ _ ⟨rfl, ys ++ [q], zs ++ [q], .is (.py (.int q)), by simp [e], s1, by simp⟩⟩
      rw [List.length_map]
      have := le_line (n := 1000) (by omega)
      omega
    | false =>
      simp_arith [and_true]
      exact hR _ _ ⟨rfl, ys, zs ++ [q], .is (.py (.int q)), by simp [e], s2, rfl⟩
  · obtain ⟨rfl, ys, zs, s, e, hy, rfl⟩ := h
    rw [List.append_nil] at e
    rw [← e] at hy
    simp_arith [and_true]
    cases ys with
    | nil =>
      simp_arith [List.map_nil, List.isEmpty_nil, spd_draw]
      refine ⟨by omega, by omega, fun i i0 i1 => ?_⟩
      simp_arith [l1]
      refine n [1 + i] (sub_subs ?_) (by simp)
      exact List.singleton_sublist.mpr ((mem_upTo m1).mpr (by omega))
    | cons y ys =>
      have : ((y :: ys).map PyData.int).isEmpty = false := by simp
      simp_arith [this]
      exact n (y :: ys) (sub_subs hy) (by simp)
/-! all items -/
def rowC (a b : Int) : List Itm := (ten.filter fun c => decide ((b - a) % c = 0)).map fun c => (a, b, c)
def rowI (a : Int) : List Itm := (a, a, 1) :: (ten.filter fun b => decide (a < b)).flatMap fun b => rowC a b
theorem itemsAll_eq : itemsAll = ten.flatMap rowI := rfl
theorem row_rg : ∀ a ∈ ten, rgI (a + 1) (11 - (a + 1)).toNat = ten.filter (fun b => decide (a < b)) ∧ (rowI a).length ≤ 30 := by decide +kernel
theorem cell_rg : ∀ a ∈ ten, ∀ b ∈ ten, a < b → (((rgI 1 9).filter fun c => decide ((b - a) % c = 0)).map fun c => ((a, b, c) : Itm)) = rowC a b := by decide +kernel
theorem rg9 : ∀ c ∈ rgI 1 9, 0 < c := by decide +kernel
def sp__law_items : Spec0 := fun ds N _ => ds = [] ∧ N (.py (.list (itemsAll.map itD)))
def w__law_items : WS Unit :=
  wSeq (wNew 0) (wSeq (wFor (wRg2 (wCons (wC (.int 1)) (wCons (wC (.int 11)) (wNil)))) (wgName 1) (wSeq (wAppend 0 (wDisp .tuple (wCons (wVar 1) (wCons (wVar 1) (wCons (wC (.int 1)) (wNil)))))) (wFor (wRg2 (wCons (wOp fAdd kAdd (wVar 1) (wC (.int 1))) (wCons (wC (.int 11)) (wNil)))) (wgName 2) (wOwnCat 0 (wLc (wRg2 (wCons (wC (.int 1)) (wCons (wC (.int 10)) (wNil)))) (wgName 3) (wT (wOp fEq kEq (wOp fMod kMod (wOp fSub kTrue (wVar 2) (wVar 1)) (wVar 3)) (wC (.int 0)))) (wDisp .tuple (wCons (wVar 1) (wCons (wVar 2) (wCons (wVar 3) (wNil))))) [3]))))) (wFrz 0 (wRet (wVar 0))))
theorem law_itemsAll : ∀ ds θ N Nx, sp__law_items.up ds θ N Nx → w__law_items (bodyEN N Nx) (startD 4 ds) θ := by
  rintro ds θ N Nx ⟨rfl, n⟩
  simp_arith [w__law_items, rgD_eq, List.map_map]
  refine ⟨by omega, by omega, by omega, by omega, ?_⟩
  have e10 : rgI 1 (11 - 1 : Int).toNat = ten := by decide +kernel
  rw [e10]
  have ltot : ∀ (zs xs : List Int), ten = zs ++ xs → (zs.flatMap rowI).length ≤ 300 := by
    intro zs xs e
    have hl : zs.length ≤ 10 := by
      have := congrArg List.length e
      simp at this
      omega
    have hm : ∀ z ∈ zs, z ∈ ten := fun z hz => by rw [e]; exact List.mem_append_left _ hz
    have : (zs.flatMap rowI).length ≤ zs.length * 30 := by
      rw [List.length_flatMap]
      have := sum_le (fun z => (rowI z).length) 30 zs fun z hz => (row_rg z (hm z hz)).2
      exact this
    omega
  refine forGo_inv (D.py ∘ PyData.int) (fun (xs : List Int) (ρ : DS) (_ : Unit) => ∃ (zs : List Int) (s1 s2 s3 : Sl), ten = zs ++ xs ∧ ρ = [.own ((zs.flatMap rowI).map itD), s1, s2, s3])
    (fun a xs ρ θ h R hR => ?_) (fun ρ θ h => ?_) _ _ _ ⟨[], .no, .no, .no, rfl, rfl⟩
  · obtain ⟨zs, s1, s2, s3, e, rfl⟩ := h
    have ha : a ∈ ten := by rw [e]; simp
    have ha' := ten_iff.mp ha
    have hl := ltot zs _ e
    have hl1 : ((zs.flatMap rowI).map itD).length < sizeLine := by
      rw [List.length_map]
      have := le_line (n := 1000) (by omega)
      omega
    have l3 : (3 ≤ sizeLine) = True := eq_true (by decide)
    simp_arith [Function.comp, l3, hl1]
    refine ⟨by omega, by omega, by omega, by omega, ?_⟩
    rw [rgD_eq, (row_rg a ha).1, List.map_map]
    have hrow := (row_rg a ha).2
    refine forGo_inv (D.py ∘ PyData.int) (fun (ys : List Int) (ρ : DS) (_ : Unit) => ∃ (us : List Int) (s2 s3 : Sl), ten.filter (fun b => decide (a < b)) = us ++ ys ∧ ρ = [.own (((zs.flatMap rowI) ++ ((a, a, 1) :: us.flatMap fun b => rowC a b)).map itD), .is (.py (.int a)), s2, s3])
      (fun b ys ρ θ h R' hR' => ?_) (fun ρ θ h => ?_) _ _ _ ⟨[], s2, s3, rfl, by simp⟩
    · obtain ⟨us, s2, s3, e2, rfl⟩ := h
      have hb : b ∈ ten.filter (fun b => decide (a < b)) := by rw [e2]; simp
      obtain ⟨hb1, hb2⟩ := List.mem_filter.mp hb
      have hab : a < b := of_decide_eq_true hb2
      have e9 : (10 - 1 : Int).toNat = 9 := rfl
      simp_arith [Function.comp, rgD_eq, List.map_map, e9]
      refine ⟨by omega, by omega, by omega, by omega, ?_⟩
      refine lcGo_fm (fun x => D.py (PyData.int x)) (fun c => decide ((b - a) % c = 0)) (fun c => itD (a, b, c)) _ [] (fun c hc T F q => ?_) ?_ ?_
      · simp_arith [l3]
        exact ⟨rg9 c hc, q⟩
      · simp only [rgI, List.length_nil, List.length_map, List.length_range]
        exact le_line (by omega)
      · have ec := cell_rg a ha b hb1 hab
        have ec2 : (((rgI 1 9).filter fun c => decide ((b - a) % c = 0)).map fun c => itD (a, b, c)) = (rowC a b).map itD := by
          rw [← ec, List.map_map]
          rfl
        rw [List.nil_append, ec2]
        have ei : (itD ∘ fun c => ((a, b, c) : Itm)) = fun c => itD (a, b, c) := rfl
        have hfl : ((us ++ [b]).flatMap fun b => rowC a b).length ≤ 30 := by
          have h1 : rowI a = (a, a, 1) :: ((us ++ [b]).flatMap (fun b => rowC a b) ++ ys.flatMap fun b => rowC a b) := by
            unfold rowI
            rw [e2]
            simp
          rw [h1] at hrow
          simp only [List.length_cons, List.length_append] at hrow ⊢
          omega
        refine ⟨_, rfl, ?_, hR' _ _ ⟨us ++ [b], .is (.py (.int b)), s3, by rw [e2]; simp, ?_⟩⟩
        · simp only [List.flatMap_append, List.flatMap_cons, List.flatMap_nil, List.append_nil, List.length_append] at hfl
          simp only [List.length_map, List.length_append, List.length_cons]
          exact le_line (by omega)
        · simp [List.flatMap_append]
    · obtain ⟨us, s2, s3, e2, rfl⟩ := h
      rw [List.append_nil] at e2
      refine hR _ _ ⟨zs ++ [a], .is (.py (.int a)), s2, s3, by rw [e]; simp, ?_⟩
      rw [← e2]
      simp [rowI]
  · obtain ⟨zs, s1, s2, s3, e, rfl⟩ := h
    rw [List.append_nil] at e
    simp_arith [and_true]
    rw [itemsAll_eq, e] at n
    exact n
end RT
end
section
set_option Elab.async false
set_option linter.all false
set_option maxRecDepth 100000
set_option maxHeartbeats 4000000
namespace RT
open PySem PySem.Spec PyProof.Rows L2
local macro_rules | `(tactic| simp_arith [$ts,*] $[$loc]?) => `(tactic| simp only [$ts,*, wVar, wOwn, wC, wOp, wT, wChain, wAndT, wOrT, wNotT, wAnd, wOr, wNot, wIf, wNil, wCons, wDisp, wCall, wCall0, wNoPart, wPart, wSl, wRevL, wBlt, wItL, wItT, wItS, wRg1, wRg2, wEnum, wZip, wLR, wLR2, wYes, wM1, wFmt, wJoined, wIsi, wNeg, wNewD, wOwnCat, wPar2, wNext, wSeq, wNever, wSet, wNew, wAug, wExtend, wAppend, wPut, wFrz, wRet, wRetOwn, wRetN, wDrop, wIfS, wgName, wgTup, wUnp, wRaise, bodyEN, wLc, wFor, wSortSet, e_add_i, e_add_s, e_add_l, e_add_t, e_kadd_i, e_kadd_s, e_kadd_l, e_kadd_t, e_sub, e_kt, e_mul_i, e_mul_l, e_kmul_i, e_kmul_l, e_div, e_kdiv, e_mod, e_kmod, e_cmp, e_eq, e_ne, e_keq, e_is_n, e_is_b, e_isn_n, e_isn_b, e_non_n, e_non_l, e_non_t, e_non_i, e_non_s, e_non_b, e_non_x, e_in_l, e_in_t, e_ni_l, e_ni_t, e_kin_l, e_kin_t, e_kin_s, e_ix_l, e_ix_t, e_ix_s, e_kix_l, e_kix_t, e_kix_s, e_sl_l, e_sl_t, e_sl_s, e_len_l, e_len_t, e_len_s, e_klen_l, e_klen_t, e_klen_s, e_kany, e_list_l, e_list_t, e_tup_l, e_tup_t, e_sum, e_max, e_max2, e_min, e_kne, e_kne2, e_all, e_str, e_kstr, e_int, e_kint, e_split, e_ksplit, e_part, e_kpart, e_join, e_kjoin, e_pys0, e_pys1, e_sa0, e_sa1, e_wipe0, e_wipe1, e_js0, e_js1, e_ty_i, e_ty_b, e_ty_n, e_ty_s, e_ty_l, e_ty_t, e_isi_ii, e_isi_ib, e_isi_in, e_isi_is, e_isi_il, e_isi_it, e_isi_bi, e_isi_bb, e_isi_bn, e_isi_bs, e_isi_bl, e_isi_bt, e_isi_li, e_isi_lb, e_isi_ln, e_isi_ls, e_isi_ll, e_isi_lt, e_isi_ti, e_isi_tb, e_isi_tn, e_isi_ts, e_isi_tl, e_isi_tt, e_isi_si, e_isi_sb, e_isi_sn, e_isi_ss, e_isi_sl, e_isi_st, e_up, e_st0, e_st1, e_st2, exists_eq_left, exists_eq_left', exists_eq_right, exists_eq_right', exists_eq', exists_eq, true_and, and_true, and_self, false_and, and_false, exists_and_left, exists_and_right, exists_const, Option.some.injEq, Option.map_some, Option.map_none, Sl.is.injEq, Sl.own.injEq, D.py.injEq, D.ex.injEq, D.rf.injEq, PyData.int.injEq, PyData.bool.injEq, PyData.str.injEq, PyData.list.injEq, PyData.tuple.injEq, List.cons.injEq, if_true, if_false, eq_self, Bool.false_eq_true, Bool.true_eq_false, Bool.not_true, Bool.not_false, Bool.not_not, List.getElem?_cons_zero, List.getElem?_cons_succ, List.set_cons_zero, List.set_cons_succ, List.length_cons, List.length_nil, List.cons_append, List.nil_append, reduceCtorEq, List.replicate_zero, List.replicate_succ, Nat.reduceAdd, Nat.reduceSub, decide_true, decide_false, intsOf_map', blsOf_map', strsOf_map', map_int_inj, map_str_inj, map_bool_inj, map_itD_inj, itD_iff, sh_int, sh_bool, sh_none, sh_itD, sh_nil, sh_ints, sh_its, eqv_int, eqv_bool, eqv_str, eqv_itD, eqv_ints, eqv_strs, eqv_its, eqv_nil, Nat.zero_le, and_assoc] $[$loc]?)
def sp__law_numbers : Spec0 := fun ds N _ => ∃ q : Itm, ds = [.py (itD q)] ∧ itemOk q = true ∧ N (.py (.list ((numbersOf q).map .int)))
def w__law_numbers : WS Unit :=
  wRet (wLc (wRg2 (wCons (wOp fIx kIx (wVar 0) (wC (.int 0))) (wCons (wOp fAdd kAdd (wOp fIx kIx (wVar 0) (wC (.int 1))) (wC (.int 1))) (wNil)))) (wgName 1) (wT (wOp fEq kEq (wOp fMod kMod (wOp fSub kTrue (wVar 1) (wOp fIx kIx (wVar 0) (wC (.int 0)))) (wOp fIx kIx (wVar 0) (wC (.int 2)))) (wC (.int 0)))) (wVar 1) [1])
theorem nums_rg : ∀ q ∈ itemsAll, ((rgI q.1 (q.2.1 + 1 - q.1).toNat).filter fun k => decide ((k - q.1) % q.2.2 = 0)) = numbersOf q ∧ 0 < q.2.2 := by decide +kernel
theorem law_numbers : ∀ ds θ N Nx, sp__law_numbers.up ds θ N Nx → w__law_numbers (bodyEN N Nx) (startD 2 ds) θ := by
  rintro ds θ N Nx ⟨q, rfl, ok, n⟩
  obtain ⟨h1, h2⟩ := nums_rg q (item_mem.mp ok)
  obtain ⟨t1, t2, t3⟩ := item_ten ok
  have t1 := ten_iff.mp t1
  have t2 := ten_iff.mp t2
  simp_arith [w__law_numbers, (atI_3 _ _ _).1, (atI_3 _ _ _).2.1, (atI_3 _ _ _).2.2, rgD_eq, List.map_map]
  refine ⟨by omega, by omega, by omega, by omega, ?_⟩
  refine lcGo_fm (D.py ∘ PyData.int) (fun k => decide ((k - q.1) % q.2.2 = 0)) PyData.int _ [] (fun k hk T F t => ?_) ?_ ?_
  · simp_arith [Function.comp, (atI_3 _ _ _).1, (atI_3 _ _ _).2.1, (atI_3 _ _ _).2.2]
    exact ⟨h2, t⟩
  · simp only [rgI, List.length_nil, List.length_map, List.length_range]
    exact le_line (by omega)
  · rw [List.nil_append, h1]
    exact n
def sp__law_word : Spec0 := fun ds N _ => ∃ q : Itm, ds = [.py (itD q)] ∧ itemOk q = true ∧ N (.py (.str (textOf q)))
def w__law_word : WS Unit :=
  wSeq (wIfS (wT (wOp fEq kEq (wOp fIx kIx (wVar 0) (wC (.int 0))) (wOp fIx kIx (wVar 0) (wC (.int 1))))) (wRet (wBlt fStr kStr (wCons (wOp fIx kIx (wVar 0) (wC (.int 0))) (wNil)))) (wNext)) (wRet (wOp fAdd kAdd (wOp fAdd kAdd (wOp fAdd kAdd (wBlt fStr kStr (wCons (wOp fIx kIx (wVar 0) (wC (.int 0))) (wNil))) (wC (.str "-"))) (wBlt fStr kStr (wCons (wOp fIx kIx (wVar 0) (wC (.int 1))) (wNil)))) (wIf (wT (wOp fEq kEq (wOp fIx kIx (wVar 0) (wC (.int 2))) (wC (.int 1)))) (wC (.str "")) (wOp fAdd kAdd (wC (.str "/")) (wBlt fStr kStr (wCons (wOp fIx kIx (wVar 0) (wC (.int 2))) (wNil)))))))
theorem word_eq : ∀ q ∈ itemsAll, textOf q = if q.1 = q.2.1 then iStr q.1 else ((iStr q.1 ++ "-") ++ iStr q.2.1) ++ (if q.2.2 = 1 then ("" : Str) else ("/" : Str) ++ iStr q.2.2) := by decide +kernel
theorem str_lens : ("-" : Str).length = 1 ∧ ("/" : Str).length = 1 ∧ ("" : Str).length = 0 := by decide +kernel
theorem law_word : ∀ ds θ N Nx, sp__law_word.up ds θ N Nx → w__law_word (bodyEN N Nx) (startD 1 ds) θ := by
  rintro ds θ N Nx ⟨q, rfl, ok, n⟩
  obtain ⟨t1, t2, t3⟩ := item_ten ok
  obtain ⟨a1, a2⟩ := log2_ten _ t1
  obtain ⟨b1, b2⟩ := log2_ten _ t2
  obtain ⟨c1, c2⟩ := log2_ten _ t3
  obtain ⟨hd, hs, he⟩ := str_lens
  have hb : ∀ {n : Nat}, n ≤ 20 → n ≤ sizeLine := fun h => le_line (by omega)
  rw [word_eq q (item_mem.mp ok)] at n
  simp_arith [w__law_word, (atI_3 _ _ _).1, (atI_3 _ _ _).2.1, (atI_3 _ _ _).2.2, a1, b1, c1]
  by_cases h : q.1 = q.2.1
  · rw [if_pos h] at n
    simp_arith [h] at n ⊢
    exact n
  · rw [if_neg h] at n
    simp_arith [h, PySem.Str.length_append]
    refine ⟨hb (by omega), hb (by omega), ?_⟩
    by_cases h2 : q.2.2 = 1
    · rw [if_pos h2] at n
      simp_arith [h2, PySem.Str.length_append]
      exact ⟨hb (by omega), n⟩
    · rw [if_neg h2] at n
      simp_arith [h2, PySem.Str.length_append]
      exact ⟨hb (by omega), hb (by omega), n⟩
def spd_text : Spec DrawSt := fun ds θ N _ => ∃ (a : Addr) (m : Int), ds = [.rf a, .py (.int m)] ∧ θ = .on a ∧ 1 ≤ m ∧ m ≤ 100 ∧ ∀ its : List Itm, its.all itemOk = true → its ≠ [] → (its.length : Int) ≤ m → N (.py (.list (its.map itD))) (.on a)
def w__law_text : WS DrawSt :=
  wSeq (wSet 2 (wCall0 sp__law_items wNil)) (wRet (wLc (wRg1 (wCons (wOp fAdd kAdd (wC (.int 1)) (wCall spd_draw (wCons (wVar 0) (wCons (wVar 1) (wNil))))) (wNil))) (wgName 3) (wYes) (wCall spd_pick (wCons (wVar 0) (wCons (wVar 2) (wNil)))) [3]))
theorem law_text : ∀ ds θ N Nx, spd_text ds θ N Nx → w__law_text (bodyEN N Nx) (startD 4 ds) θ := by
  rintro ds θ N Nx ⟨a, m, rfl, rfl, m1, m2, n⟩
  simp_arith [w__law_text, sp__law_items, spd_draw, rgD_eq, List.map_map]
  refine ⟨by omega, by omega, fun i i0 i1 => ⟨by omega, by omega, ?_⟩⟩
  refine lcGo_inv (D.py ∘ PyData.int) (fun (xs : List Int) (acc : List PyData) (θ : DrawSt) => θ = .on a ∧ ∃ its : List Itm, acc = its.map itD ∧ its.all itemOk = true ∧ (its.length + xs.length : Int) = 1 + i) (fun x xs acc θ h => ?_) (fun acc θ h => ?_) _ _ _ ⟨rfl, [], rfl, rfl, by simp [rgI]; omega⟩
  · obtain ⟨rfl, its, rfl, h1, h2⟩ := h
    refine ⟨?_, fun T hT => ?_⟩
    · rw [List.length_map]
      have := le_line (n := 1000) (by omega)
      simp at h2
      omega
    · simp_arith [Function.comp, spd_pick]
      refine ⟨by decide +kernel, by rw [List.length_map]; decide +kernel, fun d hd => ?_⟩
      obtain ⟨q, hq, rfl⟩ := List.mem_map.mp hd
      refine hT _ _ ⟨rfl, its ++ [q], by simp, ?_, by simp at h2 ⊢; omega⟩
      rw [List.all_append, h1]
      simp [item_mem.mpr hq]
  · obtain ⟨rfl, its, rfl, h1, h2⟩ := h
    refine n its h1 (fun e => ?_) ?_
    · subst e
      simp at h2
      omega
    · simp at h2
      omega
def sp__law_meant : Spec0 := fun ds N _ => ∃ its : List Itm, ds = [.py (.list (its.map itD))] ∧ its.all itemOk = true ∧ its.length ≤ 400 ∧ N (.py (.list ((setOf its).map .int)))
def w__law_meant : WS Unit :=
  wSeq (wSet 1 (wDisp .list (wNil))) (wSeq (wFor (wItL (wVar 0)) (wgName 2) (wSet 1 (wOp fAdd kAdd (wVar 1) (wCall0 sp__law_numbers (wCons (wVar 2) (wNil)))))) (wRet (wSortSet (wVar 1))))
theorem law_meant : ∀ ds θ N Nx, sp__law_meant.up ds θ N Nx → w__law_meant (bodyEN N Nx) (startD 3 ds) θ := by
  rintro ds θ N Nx ⟨its, rfl, ok, hl, n⟩
  simp_arith [w__law_meant, List.map_map]
  refine forGo_inv (D.py ∘ itD) (fun (xs : List Itm) (ρ : DS) (_ : Unit) => ∃ (ys : List Itm) (x : Sl), its = ys ++ xs ∧ ρ = [.is (.py (.list (its.map itD))), .is (.py (.list ((ys.flatMap numbersOf).map .int))), x]) (fun q xs ρ θ h R hR => ?_) (fun ρ θ h => ?_) its _ _ ⟨[], .no, rfl, rfl⟩
  · obtain ⟨ys, x, e, rfl⟩ := h
    have okq : itemOk q = true := List.all_eq_true.mp ok q (by rw [e]; simp)
    simp_arith [sp__law_numbers, Function.comp]
    refine ⟨q, rfl, rfl, rfl, okq, ?_, hR _ _ ⟨ys ++ [q], .is (.py (itD q)), by rw [e]; simp, ?_⟩⟩
    · have h1 := flat_len (its := ys) (by
        rw [List.all_eq_true] at ok ⊢
        exact fun z hz => ok z (by rw [e]; exact List.mem_append_left _ hz))
      have h2 := (rg_items q (item_mem.mp okq)).2.2
      have h3 : its.length = ys.length + (xs.length + 1) := by rw [e]; simp
      rw [List.length_map, List.length_map]
      exact le_line (by omega)
    · simp
  · obtain ⟨ys, x, e, rfl⟩ := h
    simp_arith [and_true]
    have ey : ys = its := by rw [e]; simp
    subst ey
    refine ⟨?_, fun k hk => ?_, ?_⟩
    · have := flat_len ok
      omega
    · obtain ⟨q, _, h⟩ := List.mem_flatMap.mp hk
      have := ten_iff.mp (numbersOf_ten h)
      omega
    · rw [setOf_eq]
      exact n
/-! the same for lists of data -/
theorem lcGo_fm2 {Θ α : Type} {g : WG} {tt : WT Θ} {wl : WE Θ} {ρ : DS} {N : D → Θ → Prop} {θ : Θ} (d : α → PyData) (p : α → Bool) (f : α → PyData) (xs : List α)
    (h : ∀ x ∈ xs, ∀ (T : D → Θ → Prop) (F : Θ → Prop), (if p x = true then T (.py (f x)) θ else F θ) → g (.py (d x)) ρ (fun ρ1 => tt ρ1 θ (fun b θ1 => if b = true then wl ρ1 θ1 T (fun _ _ => False) else F θ1) (fun _ _ => False)))
    (hl : xs.length ≤ sizeLine) (n : N (.py (.list ((xs.filter p).map f))) θ) : lcGo g tt wl ρ N ((xs.map d).map D.py) [] θ := by
  rw [List.map_map]
  exact lcGo_fm (D.py ∘ d) p f xs [] h (by simpa using hl) (by simpa using n)
theorem lcGo_map2 {Θ α : Type} {g : WG} {wl : WE Θ} {ρ : DS} {N : D → Θ → Prop} {θ : Θ} (d : α → PyData) (f : α → PyData) (xs : List α)
    (h : ∀ x ∈ xs, ∀ T : D → Θ → Prop, T (.py (f x)) θ → g (.py (d x)) ρ (fun ρ1 => wl ρ1 θ T (fun _ _ => False))) (hl : xs.length ≤ sizeLine) (n : N (.py (.list (xs.map f))) θ) : lcGo g wYes wl ρ N ((xs.map d).map D.py) [] θ := by
  rw [List.map_map]
  exact lcGo_map (D.py ∘ d) f xs h hl n
theorem forGo_inv2 {Θ α : Type} {g : WG} {body : WS Θ} {N : EN Θ} (d : α → PyData) (I : List α → DS → Θ → Prop) (h : ∀ x xs ρ θ, I (x :: xs) ρ θ → ∀ R : DS → Θ → Prop, (∀ ρ' θ', I xs ρ' θ' → R ρ' θ') → g (.py (d x)) ρ fun ρ1 => body { N with nx := R, ct := R, bk := N.nx } ρ1 θ)
    (hn : ∀ ρ θ, I [] ρ θ → N.nx ρ θ) (xs : List α) (ρ : DS) (θ : Θ) (i : I xs ρ θ) : forGo g body N ((xs.map d).map D.py) ρ θ := by
  rw [List.map_map]
  exact forGo_inv (D.py ∘ d) I h hn xs ρ θ i
end RT
end
section
set_option Elab.async false
set_option linter.all false
set_option maxRecDepth 100000
set_option maxHeartbeats 8000000
namespace RT
open PySem PySem.Spec PyProof.Rows L2
local macro_rules | `(tactic| simp_arith [$ts,*] $[$loc]?) => `(tactic| simp only [$ts,*, wVar, wOwn, wC, wOp, wT, wChain, wAndT, wOrT, wNotT, wAnd, wOr, wNot, wIf, wNil, wCons, wDisp, wCall, wCall0, wNoPart, wPart, wSl, wRevL, wBlt, wItL, wItT, wItS, wRg1, wRg2, wEnum, wZip, wLR, wLR2, wYes, wM1, wFmt, wJoined, wIsi, wNeg, wNewD, wOwnCat, wPar2, wNext, wSeq, wNever, wSet, wNew, wAug, wExtend, wAppend, wPut, wFrz, wRet, wRetOwn, wRetN, wDrop, wIfS, wgName, wgTup, wUnp, wRaise, bodyEN, wLc, wFor, wSortSet, e_add_i, e_add_s, e_add_l, e_add_t, e_kadd_i, e_kadd_s, e_kadd_l, e_kadd_t, e_sub, e_kt, e_mul_i, e_mul_l, e_kmul_i, e_kmul_l, e_div, e_kdiv, e_mod, e_kmod, e_cmp, e_eq, e_ne, e_keq, e_is_n, e_is_b, e_isn_n, e_isn_b, e_non_n, e_non_l, e_non_t, e_non_i, e_non_s, e_non_b, e_non_x, e_in_l, e_in_t, e_ni_l, e_ni_t, e_kin_l, e_kin_t, e_kin_s, e_ix_l, e_ix_t, e_ix_s, e_kix_l, e_kix_t, e_kix_s, e_sl_l, e_sl_t, e_sl_s, e_len_l, e_len_t, e_len_s, e_klen_l, e_klen_t, e_klen_s, e_kany, e_list_l, e_list_t, e_tup_l, e_tup_t, e_sum, e_max, e_max2, e_min, e_kne, e_kne2, e_all, e_str, e_kstr, e_int, e_kint, e_split, e_ksplit, e_part, e_kpart, e_join, e_kjoin, e_pys0, e_pys1, e_sa0, e_sa1, e_wipe0, e_wipe1, e_js0, e_js1, e_ty_i, e_ty_b, e_ty_n, e_ty_s, e_ty_l, e_ty_t, e_isi_ii, e_isi_ib, e_isi_in, e_isi_is, e_isi_il, e_isi_it, e_isi_bi, e_isi_bb, e_isi_bn, e_isi_bs, e_isi_bl, e_isi_bt, e_isi_li, e_isi_lb, e_isi_ln, e_isi_ls, e_isi_ll, e_isi_lt, e_isi_ti, e_isi_tb, e_isi_tn, e_isi_ts, e_isi_tl, e_isi_tt, e_isi_si, e_isi_sb, e_isi_sn, e_isi_ss, e_isi_sl, e_isi_st, e_up, e_st0, e_st1, e_st2, exists_eq_left, exists_eq_left', exists_eq_right, exists_eq_right', exists_eq', exists_eq, true_and, and_true, and_self, false_and, and_false, exists_and_left, exists_and_right, exists_const, Option.some.injEq, Option.map_some, Option.map_none, Sl.is.injEq, Sl.own.injEq, D.py.injEq, D.ex.injEq, D.rf.injEq, PyData.int.injEq, PyData.bool.injEq, PyData.str.injEq, PyData.list.injEq, PyData.tuple.injEq, List.cons.injEq, if_true, if_false, eq_self, Bool.false_eq_true, Bool.true_eq_false, Bool.not_true, Bool.not_false, Bool.not_not, List.getElem?_cons_zero, List.getElem?_cons_succ, List.set_cons_zero, List.set_cons_succ, List.length_cons, List.length_nil, List.cons_append, List.nil_append, reduceCtorEq, List.replicate_zero, List.replicate_succ, Nat.reduceAdd, Nat.reduceSub, decide_true, decide_false, intsOf_map', blsOf_map', strsOf_map', map_int_inj, map_str_inj, map_bool_inj, map_itD_inj, itD_iff, sh_int, sh_bool, sh_none, sh_itD, sh_nil, sh_ints, sh_its, eqv_int, eqv_bool, eqv_str, eqv_itD, eqv_ints, eqv_strs, eqv_its, eqv_nil, Nat.zero_le, and_assoc] $[$loc]?)
/-! ### texts that a law joins -/
/-- the texts of items, joined -/
def joinI (its : List Itm) : Str := Txt.join "," (its.map textOf)
theorem join_fold (its : List Itm) : Txt.join (Str.ofString ",") (its.map textOf) = joinI its := rfl
theorem plainOf_eq (ns : List Int) : plainOf ns = joinI (runsOf ns) := rfl
theorem split_joinI {its : List Itm} (ok : its.all itemOk = true) (ne : its ≠ []) : Txt.split (joinI its) "," = its.map textOf := by
    refine TL.split_join (s := 44) (S := []) (by decide +kernel) (by decide +kernel) (fun e => ne (List.map_eq_nil_iff.mp e)) fun p hp => ?_
    obtain ⟨q, hq, rfl⟩ := List.mem_map.mp hp
    exact (item_texts q (item_mem.mp (List.all_eq_true.mp ok q hq))).2.2.2
theorem itemsIn_join {its : List Itm} (ok : its.all itemOk = true) (ne : its ≠ []) : itemsIn (joinI its) = some its := by
  unfold itemsIn
  rw [split_joinI ok ne]
  refine mapM_some.mpr ?_
  rw [List.map_map]
  refine List.map_congr_left fun q hq => ?_
  exact itemIn_some.mpr ⟨List.all_eq_true.mp ok q hq, rfl⟩
theorem tok_join {its : List Itm} (ok : its.all itemOk = true) (hl : its.length ≤ 1000) : TOk (joinI its) := TOk.join ok hl
theorem kjoin_ok {its : List Itm} (ok : its.all itemOk = true) (hl : its.length ≤ 1000) : (∀ ys, its.map textOf = ys → (ys.map (·.length)).sum + ys.length * ("," : Str).length ≤ 16777216) = True := eq_true fun ys e => by
  subst e
  exact joins_ok ok hl
theorem lc_words {Θ : Type} {ρ : DS} {N : D → Θ → Prop} {θ : Θ} {i : Nat} {its : List Itm} (ok : its.all itemOk = true) (hl : its.length ≤ 1000) (hi : i < ρ.length) (n : N (.py (.list ((its.map textOf).map .str))) θ) :
    lcGo (wgName i) wYes (wCall0 sp__law_word (wCons (wVar i) wNil)) ρ N (its.map (D.py ∘ itD)) [] θ := by
  refine lcGo_map (D.py ∘ itD) (fun q => .str (textOf q)) _ (fun q hq T t => ?_) (le_line (by omega)) ?_
  · simp_arith [wgName, wCall0, wCons, wVar, wNil, List.getElem?_set_self hi, sp__law_word, Function.comp]
    exact ⟨q, rfl, rfl, rfl, List.all_eq_true.mp ok q hq, t⟩
  · rw [List.map_map] at n
    exact n
theorem numbers_ne : ∀ q ∈ itemsAll, numbersOf q ≠ [] := by decide +kernel
theorem setOf_ne {its : List Itm} (ok : its.all itemOk = true) (ne : its ≠ []) : setOf its ≠ [] := by
  cases its with
  | nil => exact absurd rfl ne
  | cons q its =>
    have hq : itemOk q = true := List.all_eq_true.mp ok q List.mem_cons_self
    have := numbers_ne q (item_mem.mp hq)
    cases hn : numbersOf q with
    | nil => exact absurd hn this
    | cons k r =>
      intro e
      have : k ∈ setOf (q :: its) := mem_setOf.mpr ⟨q, List.mem_cons_self, by rw [hn]; exact List.mem_cons_self⟩
      rw [e] at this
      cases this
structure Txts (its : List Itm) : Prop where
  ok : its.all itemOk = true
  it : itemsD (.str (joinI its)) = some its
  tf : TFine (.str (joinI its))
  sh : SeqAt.shaped (.str (joinI its)) = true
  kj : (∀ ys, its.map textOf = ys → (ys.map (·.length)).sum + ys.length * ("," : Str).length ≤ 16777216) = True
  l4 : (its.length ≤ 400) = True
theorem txts {its : List Itm} (ok : its.all itemOk = true) (ne : its ≠ []) (hl : its.length ≤ 400) : Txts its :=
  ⟨ok, itemsIn_join ok ne, tok_join ok (by omega), sh_str (tok_join ok (by omega)).1, kjoin_ok ok (by omega), eq_true hl⟩
theorem lc_w {ρ : DS} {N : D → DrawSt → Prop} {θ : DrawSt} {i : Nat} {its : List Itm} (t : Txts its) (n : N (.py (.list ((its.map textOf).map .str))) θ) (hi : i < ρ.length := by simp) :
    lcGo (wgName i) wYes (wCall0 sp__law_word (wCons (wVar i) wNil)) ρ N ((its.map itD).map D.py) [] θ := by
  rw [List.map_map]
  exact lc_words t.ok (by have := of_eq_true t.l4; omega) hi n
mutual
theorem eqv_self : ∀ d : PyData, d.canLay0 = true → PyData.eqv d d = true
  | .none, _ => by simp [PyData.eqv]
  | .bool _, _ => by simp [PyData.eqv]
  | .int _, _ => by simp [PyData.eqv]
  | .str _, _ => by simp [PyData.eqv]
  | .list xs, h => by
    simp only [PyData.eqv]
    exact eqvAll_self xs (by simpa [PyData.canLay0] using h)
  | .tuple xs, h => by
    simp only [PyData.eqv]
    exact eqvAll_self xs (by simpa [PyData.canLay0] using h)
  | .dict _, h => by simp [PyData.canLay0] at h
theorem eqvAll_self : ∀ ds : List PyData, PyData.canLayAll0 ds = true → PyData.eqvAll ds ds = true
  | [], _ => by simp [PyData.eqvAll]
  | d :: ds, h => by
    simp only [PyData.canLayAll0, Bool.and_eq_true] at h
    simp only [PyData.eqvAll, eqv_self d h.1, eqvAll_self ds h.2, Bool.and_self]
end
theorem shp_self {k : Nat} {d : PyData} (h : Shp k d) : PyData.eqv d d = true := eqv_self d h.1
/-- numbers as items -/
def oneI (k : Int) : Itm := (k, k, 1)
theorem textOf_one (k : Int) : textOf (oneI k) = iStr k := by
  unfold textOf oneI
  rw [if_pos rfl]
theorem ones_all : ∀ ns ∈ subs ten, (ns.map oneI).all itemOk = true ∧ setOf (ns.map oneI) = ns := by decide +kernel
theorem dec_comm {α : Type} {a b : α} [Decidable (a = b)] [Decidable (b = a)] : decide (a = b) = decide (b = a) := decide_eq_decide.mpr eq_comm
theorem forGo_rg {Θ : Type} {g : WG} {body : WS Θ} {N : EN Θ} {lo : Int} {n : Nat} (I : Nat → DS → Θ → Prop) (h : ∀ i, i < n → ∀ ρ θ, I i ρ θ → ∀ R : DS → Θ → Prop, (∀ ρ' θ', I (i + 1) ρ' θ' → R ρ' θ') → g (.py (.int (lo + (i : Int)))) ρ fun ρ1 => body { N with nx := R, ct := R, bk := N.nx } ρ1 θ)
    (hn : ∀ ρ θ, I n ρ θ → N.nx ρ θ) {ρ : DS} {θ : Θ} (h0 : I 0 ρ θ) : forGo g body N ((rgD lo n).map D.py) ρ θ := by
  unfold rgD
  refine forGo_inv2 (fun i : Nat => .int (lo + (i : Nat))) (fun xs ρ θ => ∃ i, i ≤ n ∧ xs = (List.range n).drop i ∧ I i ρ θ) (fun x xs ρ θ hx R hR => ?_) (fun ρ θ hx => ?_) _ _ _ ⟨0, Nat.zero_le _, rfl, h0⟩
  · obtain ⟨i, hi, e, hI⟩ := hx
    have lt : i < n := by
      refine Nat.lt_of_le_of_ne hi fun q => ?_
      subst q
      rw [List.drop_eq_nil_of_le (by simp)] at e
      cases e
    rw [List.drop_eq_getElem_cons (by simpa using lt)] at e
    injection e with e1 e2
    have ex : x = i := by rw [e1, List.getElem_range]
    subst ex
    exact h x lt ρ θ hI R fun ρ' θ' q => hR ρ' θ' ⟨x + 1, lt, e2, q⟩
  · obtain ⟨i, hi, e, hI⟩ := hx
    have : i = n := by
      have := congrArg List.length e
      simp at this
      omega
    subst this
    exact hn ρ θ hI
end RT
end
section
set_option Elab.async false
set_option linter.all false
set_option maxRecDepth 100000
set_option maxHeartbeats 2000000
/-! ### sorted(xs), xs a list of tuples of ints of any length -/
namespace RT
open PySem PySem.Spec PyProof.Rows L2
def lexI : List Int → List Int → Bool
  | [], [] => false
  | _ :: _, [] => false
  | [], _ :: _ => true
  | a :: r, b :: s => if a = b then lexI r s else decide (a < b)
def lexG (fin : Bool) : List Int → List Int → Bool
  | a :: r, b :: s => if a = b then lexG fin r s else decide (a < b)
  | _, _ => fin
theorem lexG_eq : ∀ xs ys : List Int, lexG (decide (xs.length < ys.length)) xs ys = lexI xs ys
  | [], [] => rfl
  | [], _ :: _ => by simp [lexG, lexI]
  | _ :: _, [] => by simp [lexG, lexI]
  | x :: xs, y :: ys => by
    have ih := lexG_eq xs ys
    simp only [lexG, lexI, List.length_cons, Nat.add_lt_add_iff_right]
    rw [ih]
theorem lexI_asym : ∀ xs ys : List Int, lexI xs ys = true → lexI ys xs = false
  | [], [], h => by cases h
  | _ :: _, [], h => by cases h
  | [], _ :: _, _ => rfl
  | x :: xs, y :: ys, h => by
    unfold lexI at h ⊢
    by_cases e : x = y
    · subst e
      rw [if_pos rfl] at h ⊢
      exact lexI_asym xs ys h
    · rw [if_neg e, decide_eq_true_eq] at h
      rw [if_neg (Ne.symm e), decide_eq_false_iff_not]
      omega
theorem lexI_tr : ∀ xs ys zs : List Int, lexI ys xs = false → lexI zs ys = false → lexI zs xs = false
  | [], _, [], _, _ => rfl
  | [], _, _ :: _, _, _ => rfl
  | x :: xs, [], zs, h, _ => by cases h
  | x :: xs, y :: ys, [], _, h => by cases h
  | x :: xs, y :: ys, z :: zs, h1, h2 => by
    unfold lexI at h1 h2 ⊢
    by_cases e1 : y = x
    · subst e1
      rw [if_pos rfl] at h1
      by_cases e2 : z = y
      · subst e2
        rw [if_pos rfl] at h2 ⊢
        exact lexI_tr xs ys zs h1 h2
      · rw [if_neg e2] at h2 ⊢
        exact h2
    · rw [if_neg e1, decide_eq_false_iff_not] at h1
      by_cases e2 : z = y
      · subst e2
        rw [if_neg e1, decide_eq_false_iff_not]
        omega
      · rw [if_neg e2, decide_eq_false_iff_not] at h2
        rw [if_neg (by omega), decide_eq_false_iff_not]
        omega
theorem lexI_eq : ∀ xs ys : List Int, lexI xs ys = false → lexI ys xs = false → xs = ys
  | [], [], _, _ => rfl
  | [], _ :: _, h, _ => by cases h
  | _ :: _, [], _, h => by cases h
  | x :: xs, y :: ys, h1, h2 => by
    unfold lexI at h1 h2
    by_cases e : x = y
    · subst e
      rw [if_pos rfl] at h1 h2
      rw [lexI_eq xs ys h1 h2]
    · rw [if_neg e, decide_eq_false_iff_not] at h1
      rw [if_neg (Ne.symm e), decide_eq_false_iff_not] at h2
      omega
theorem swo_lexI {α : Type} (k : α → List Int) : SrtO.Swo fun x y => lexI (k x) (k y) := ⟨fun x y h => lexI_asym _ _ h, fun x y z h1 h2 => lexI_tr _ _ _ h1 h2⟩
section
variable {prog : Program} {w : World} {A : Around} {s : Shared} {Q : Bool → Shared → Prop} {E : Value → Shared → Prop}
theorem kat_ints {b fin : Bool} : ∀ {xs ys : List Value} {ns ms : List Int} (i : Nat), IntsAre xs ns → IntsAre ys ms → Q (lexG fin ns ms) s → PySem.W.KatLex prog w A b fin Q (xs.zip ys) i s
  | _, _, _, _, i, .nil, _, h => PySem.W.kat_nil h
  | _, _, _, _, i, .cons _ _ _, .nil, h => PySem.W.kat_nil h
  | _, _, _, _, i, .cons x t hx, .cons y u hy, h => by
    refine PySem.W.kat_cons (SeqAt.EqAt.int_int x t y u prog w _ _ ?_)
    unfold lexG at h
    refine PySem.W.kat_go (fun e => ?_) (fun e => ?_)
    · have e' : x = y := by simpa using e
      rw [if_pos e'] at h
      exact PySem.W.kat_yes (kat_ints (i + 1) hx hy h)
    · have e' : ¬ x = y := by simpa using e
      rw [if_neg e'] at h
      refine PySem.W.kat_no ?_
      cases (b && i == 0) with
      | true => exact oneLt_int h
      | false => exact PySem.W.kat_one _ _ (PyProof.Rows.lt_int (Q := PySem.W.BoolBack Q) h)
/-- the value is a tuple of these ints -/
def TupN (h : Heap) (v : Value) (ns : List Int) : Prop := ∃ a o xs n, v = .ref a ∧ h.get? a = some o ∧ o.cls = .type "tuple" ∧ o.data = .seq xs n ∧ IntsAre xs.toList ns
theorem TupN.keeps {h h' : Heap} {v : Value} {ns : List Int} (x : TupN h v ns) (k : ∀ b o, h.get? b = some o → o.cls = .type "tuple" → h'.get? b = some o) : TupN h' v ns := by
  obtain ⟨a, o, xs, n, e, ho, hc, hd, i⟩ := x
  exact ⟨a, o, xs, n, e, k _ _ ho hc, hc, hd, i⟩
theorem tupn_cmp {vs : List Value} {k : Value → List Int} (hp : ∀ v ∈ vs, TupN s.heap v (k v)) : SrtO.Cmp prog w A s (tuples' true) (fun p => p.1 ∈ vs) (SrtO.lt2 fun v u => lexI (k v) (k u)) := by
  intro p q hm hm'
  obtain ⟨a, o, xs, n, e, ho, hc, hd, i⟩ := hp _ hm
  obtain ⟨a', o', xs', n', e', ho', hc', hd', i'⟩ := hp _ hm'
  show wpAny (model prog w) A (keyLt' (tuples' true) p.1 q.1) (fun r s' => s' = s ∧ r = lexI (k p.1) (k q.1)) (fun _ _ => False) s
  generalize k p.1 = ns at i ⊢
  generalize k q.1 = ms at i' ⊢
  rw [e, e']
  refine PySem.W.kat_lt ho hd ho' hd' ?_
  refine kat_ints 0 i i' ⟨rfl, ?_⟩
  rw [← lexG_eq]
  have l1 : xs.size = ns.length := by rw [← Array.length_toList]; exact i.length
  have l2 : xs'.size = ms.length := by rw [← Array.length_toList]; exact i'.length
  rw [l1, l2]
theorem tupn_firsts {h : Heap} {k : Value → List Int} : ∀ {vs : List Value}, (∀ v ∈ vs, TupN h v (k v) ∧ k v ≠ []) → ∃ fs : List Value, PySem.W.KatTups h vs fs ∧ fs.length = vs.length ∧ ∀ f ∈ fs, ∃ x t, f = Value.int x t
  | [], _ => ⟨[], PySem.W.KatTups.nil, rfl, fun _ hm => by simp at hm⟩
  | v :: vs, hp => by
    obtain ⟨fs, h1, h2, h3⟩ := tupn_firsts (vs := vs) fun v' hm => hp v' (List.mem_cons_of_mem _ hm)
    obtain ⟨⟨a, o, xs, n, e, ho, hc, hd, i⟩, hne⟩ := hp v List.mem_cons_self
    generalize k v = ns at i hne
    obtain ⟨items⟩ := xs
    cases i with
    | nil => exact absurd rfl hne
    | cons x t hx =>
      subst e
      refine ⟨.int x t :: fs, PySem.W.KatTups.cons ho hc hd rfl h1, by rw [List.length_cons, List.length_cons, h2], fun f hm => ?_⟩
      rcases List.mem_cons.mp hm with rfl | hm
      · exact ⟨x, t, rfl⟩
      · exact h3 f hm
theorem tupn_sortable {a : Addr} {vs : List Value} {k : Value → List Int} (h0 : 0 < vs.length) (hp : ∀ v ∈ vs, TupN s.heap v (k v) ∧ k v ≠ []) (ha : ∀ o, s.heap.get? a = some o → o.cls ≠ .type "tuple") : SrtO.SortableO prog w A s a vs fun v u => lexI (k v) (k u) := by
  intro h' keep
  have hp' : ∀ v ∈ vs, TupN h' v (k v) ∧ k v ≠ [] := fun v hm => ⟨(hp v hm).1.keeps fun b o e c => keep b o (fun z => by subst z; exact ha o e c) e, (hp v hm).2⟩
  obtain ⟨fs, h1, h2, h3⟩ := tupn_firsts hp'
  refine ⟨tuples' true, fun Q E hq => ?_, tupn_cmp fun v hm => (hp' v hm).1⟩
  refine PySem.W.kat_kind (T := .type "int") h1 (by omega) (fun f hm => ?_) (by rfl) ?_
  · obtain ⟨x, t, rfl⟩ := h3 f hm
    exact PySem.W.Looks.now
  · have e : (Value.type "int" != Value.type "tuple") = true := by first | decide +kernel | rfl | decide
    rw [e]
    exact hq
end
abbrev ltN (k : V → List Int) (x y : V) : Bool := lexI (k x) (k y)
def rSortedN (K : PySem.W.Frag) : List V → Hp → VK → Prop := fun vs H Q => ∃ (a : Addr) (xs : List V) (k : V → List Int), vs = [V.ref a] ∧ SqL K H a xs ∧ (∀ x ∈ xs, (∃ t, x = V.ref t ∧ H t = some (.tup ((k x).map V.int))) ∧ k x ≠ []) ∧
  ∀ ys p, SrtO.Srtd (ltN k) ys → SrtO.Stb (ltN k) ys xs → H p = none → Q (.ref p) (upd H p (.lst ys))
theorem vals_ints : ∀ {ns : List Int} {us : List Value}, Vals (ns.map V.int) us → IntsAre us ns
  | [], _, .nil => .nil
  | n :: ns, _, .cons r t => by
    obtain ⟨u, rfl⟩ := r
    exact .cons n u (vals_ints t)
theorem cr_sortedN {X : Cx} : CallR X (.builtin "sorted") (rSortedN X.K) := by
  intro pins s σ H vs us Q I r h
  obtain ⟨a, xs, k, rfl, hs, hx, q⟩ := h
  obtain ⟨its, rv, hl, hz⟩ := I.list hs
  obtain ⟨u, rfl, ru⟩ := vals1 r
  obtain rfl : u = Value.ref a := ru
  obtain ⟨e1, e2⟩ := refs_back rv fun x m => by
    obtain ⟨⟨t, e, _⟩, _⟩ := hx x m
    exact ⟨t, e⟩
  have hp : ∀ v ∈ its, TupN s.heap v (k (backV v)) ∧ k (backV v) ≠ [] := fun v hv => by
    obtain ⟨t, rfl⟩ := e2 v hv
    have hm : V.ref t ∈ xs := by rw [e1]; exact List.mem_map.mpr ⟨_, hv, rfl⟩
    obtain ⟨⟨t', e, ht⟩, hne⟩ := hx _ hm
    cases e
    obtain ⟨_, its2, r2, o, ho, hc, n, hd⟩ := I.hok _ _ ht
    exact ⟨⟨t, o, its2.toArray, n, rfl, ho, hc, hd, vals_ints r2⟩, hne⟩
  refine SrtO.sorted_ord (swo_lexI fun v => k (backV v)) hl.isList (by rw [← rv.length]; exact hz) (fun h2 h₁ a ha kk => ?_) fun out hs hb => ?_
  · refine tupn_sortable (s := { s with heap := h₁ }) (by omega) (fun v hm => ⟨(hp v hm).1.keeps fun b o e _ => (kk b o e).2, (hp v hm).2⟩) fun o e => ?_
    have e' := e.symm.trans ha
    cases e'
    intro c
    exact absurd (Value.type.inj c) (by decide)
  · have h3 : ∀ u ∈ out, ∃ a, u = Value.ref a := fun u hu => e2 u (hb.perm.mem_iff.mp hu)
    obtain ⟨n, hn⟩ := PyProof.Rows.sortedAll_at s.heap its out.toArray
    have hbk : SrtO.Stb (ltN k) (out.map backV) xs := by
      rw [e1]
      exact SrtO.Stb.map (swo_lexI k) backV hb
    have d1 : s.heap.objs.size ≤ s.heap.objs.size + 1 := Nat.le_succ _
    refine ⟨.ref (s.heap.objs.size + 1), upd H (s.heap.objs.size + 1) (.lst (out.map backV)), I.laid (t' := s.toks) (fun b o e => PyProof.Rows.sortedAll_old e) d1 ⟨?_, out, n, vals_back h3, hn⟩, rfl, q _ (s.heap.objs.size + 1) (SrtO.srtd_map hs) hbk (I.hok.fresh d1)⟩
    rw [hbk.len]
    exact hz
/-! ### the sort, as data -/
def insB {α : Type} (lt : α → α → Bool) (x : α) : List α → List α
  | [] => [x]
  | y :: ys => if lt y x = true then y :: insB lt x ys else x :: y :: ys
def sortB {α : Type} (lt : α → α → Bool) (l : List α) : List α := l.foldr (insB lt) []
section
variable {α β : Type} {lt : α → α → Bool}
theorem insB_perm (x : α) : ∀ l : List α, (insB lt x l).Perm (x :: l)
  | [] => .refl _
  | y :: ys => by
    unfold insB
    split
    · exact ((insB_perm x ys).cons y).trans (.swap x y ys)
    · exact .refl _
theorem sortB_perm : ∀ l : List α, (sortB lt l).Perm l
  | [] => .refl _
  | x :: xs => (insB_perm x _).trans ((sortB_perm xs).cons x)
theorem insB_srtd (O : SrtO.Swo lt) (x : α) : ∀ l : List α, SrtO.Srtd lt l → SrtO.Srtd lt (insB lt x l)
  | [], _ => List.pairwise_singleton _ _
  | y :: ys, h => by
    obtain ⟨h1, h2⟩ := List.pairwise_cons.mp h
    unfold insB
    cases hl : lt y x with
    | true =>
      rw [if_pos rfl]
      refine List.pairwise_cons.mpr ⟨fun z hz => ?_, insB_srtd O x ys h2⟩
      rcases List.mem_cons.mp ((insB_perm x ys).mem_iff.mp hz) with rfl | hz
      · exact O.asym _ _ hl
      · exact h1 z hz
    | false =>
      rw [if_neg (by decide)]
      refine List.pairwise_cons.mpr ⟨fun z hz => ?_, h⟩
      rcases List.mem_cons.mp hz with rfl | hz
      · exact hl
      · exact O.tr x y z hl (h1 z hz)
theorem sortB_srtd (O : SrtO.Swo lt) : ∀ l : List α, SrtO.Srtd lt (sortB lt l)
  | [] => .nil
  | x :: xs => insB_srtd O x _ (sortB_srtd O xs)
theorem srt_uniq (O : SrtO.Swo lt) (he : ∀ x y, lt x y = false → lt y x = false → x = y) : ∀ {l m : List α}, l.Perm m → SrtO.Srtd lt l → SrtO.Srtd lt m → l = m
  | [], m, p, _, _ => (List.nil_perm.mp p).symm
  | x :: l, [], p, _, _ => absurd (List.perm_nil.mp p) (by simp)
  | x :: l, y :: m, p, hl, hm => by
    obtain ⟨l1, l2⟩ := List.pairwise_cons.mp hl
    obtain ⟨m1, m2⟩ := List.pairwise_cons.mp hm
    have h1 : lt x y = false := by
      rcases List.mem_cons.mp (p.mem_iff.mp List.mem_cons_self) with e | hx
      · rw [e]; exact O.refl y
      · exact m1 x hx
    have h2 : lt y x = false := by
      rcases List.mem_cons.mp (p.mem_iff.mpr List.mem_cons_self) with e | hy
      · rw [e]; exact O.refl x
      · exact l1 y hy
    have e := he x y h1 h2
    subst e
    rw [srt_uniq O he p.cons_inv l2 m2]
theorem insB_map (f : β → α) (x : β) : ∀ l : List β, (insB (fun a b => lt (f a) (f b)) x l).map f = insB lt (f x) (l.map f)
  | [] => rfl
  | y :: ys => by
    simp only [insB, List.map_cons]
    split
    · simp [insB_map f x ys]
    · simp
theorem sortB_map (f : β → α) : ∀ l : List β, (sortB (fun a b => lt (f a) (f b)) l).map f = sortB lt (l.map f)
  | [] => rfl
  | x :: xs => by
    show (insB _ x (sortB _ xs)).map f = insB lt (f x) (sortB lt (xs.map f))
    rw [insB_map, sortB_map f xs]
end
abbrev ltI (a b : Int) : Bool := decide (a < b)
theorem swo_ltI : SrtO.Swo ltI := ⟨fun x y h => by simp at h ⊢; omega, fun x y z h1 h2 => by simp at h1 h2 ⊢; omega⟩
def tupD (ns : List Int) : PyData := .tuple (ns.map .int)
def tupsOf : List PyData → Option (List (List Int))
  | [] => some []
  | .tuple ds :: r => match intsOf ds with
    | some (n :: ns) => (tupsOf r).map ((n :: ns) :: ·)
    | _ => none
  | _ :: _ => none
theorem tupsOf_eq : ∀ {ds : List PyData} {nss : List (List Int)}, tupsOf ds = some nss → ds = nss.map tupD ∧ ∀ ns ∈ nss, ns ≠ []
  | [], _, h => by cases h; exact ⟨rfl, fun _ h => by cases h⟩
  | .tuple xs :: r, nss, h => by
    simp only [tupsOf] at h
    cases hi : intsOf xs with
    | none => rw [hi] at h; cases h
    | some l =>
      rw [hi] at h
      cases l with
      | nil => cases h
      | cons n ns =>
        simp only at h
        cases ht : tupsOf r with
        | none => rw [ht] at h; cases h
        | some mss =>
          rw [ht] at h
          cases h
          obtain ⟨e1, e2⟩ := tupsOf_eq ht
          refine ⟨by rw [List.map_cons, ← e1, intsOf_eq hi]; rfl, fun z hz => ?_⟩
          rcases List.mem_cons.mp hz with rfl | hz
          · simp
          · exact e2 z hz
  | .none :: _, _, h => by cases h
  | .bool _ :: _, _, h => by cases h
  | .int _ :: _, _, h => by cases h
  | .str _ :: _, _, h => by cases h
  | .list _ :: _, _, h => by cases h
  | .dict _ :: _, _, h => by cases h
def fSorted : FB
  | [.py (.list ds)] => match intsOf ds with
    | some ns => some (.py (.list ((sortB ltI ns).map .int)))
    | none => (tupsOf ds).map fun nss => .py (.list ((sortB lexI nss).map tupD))
  | _ => none
/-- the ints of a tuple at an address -/
def keyG (G : Hp) (v : V) : List Int := match v with
  | .ref a => match G a with
    | some (.tup xs) => xs.map fun x => match x with
      | .int i => i
      | _ => 0
    | _ => []
  | _ => []
theorem keyG_map (ns : List Int) : (ns.map V.int).map (fun x => match x with | .int i => i | _ => 0) = ns := by
  rw [List.map_map]
  exact List.map_id ns
theorem keyG_dr {G : Hp} {v : V} {ns : List Int} (h : Dr G v (tupD ns)) : keyG G v = ns ∧ ∃ t, v = .ref t ∧ G t = some (.tup (ns.map V.int)) := by
  cases h with
  | tup e r =>
    have := r.ints
    subst this
    refine ⟨?_, _, rfl, e⟩
    unfold keyG
    simp only [e]
    exact keyG_map ns
theorem drall_keys {G : Hp} : ∀ {xs : List V} {nss : List (List Int)}, DrAll G xs (nss.map tupD) → xs.map (keyG G) = nss ∧ ∀ x ∈ xs, Dr G x (tupD (keyG G x))
  | _, [], .nil => ⟨rfl, fun _ h => by cases h⟩
  | _, ns :: nss, .cons (v := v) (vs := vs) r t => by
    obtain ⟨e1, e2⟩ := drall_keys t
    obtain ⟨k1, _⟩ := keyG_dr r
    refine ⟨by rw [List.map_cons, k1, e1], fun x hx => ?_⟩
    rcases List.mem_cons.mp hx with rfl | hx
    · rw [k1]
      exact r
    · exact e2 x hx
theorem drall_of {G : Hp} (f : V → PyData) : ∀ {xs : List V}, (∀ x ∈ xs, Dr G x (f x)) → DrAll G xs (xs.map f)
  | [], _ => .nil
  | x :: xs, h => .cons (h x List.mem_cons_self) (drall_of f fun y hy => h y (List.mem_cons_of_mem x hy))
section
variable {X : Cx} {C : EK → Addr}
theorem b_sorted : CalB X C (.builtin "sorted") fSorted kAny := by
  refine ⟨_, cr_sortedI.or cr_sortedN, fun M vs ds d Q ok r hf hk q => ?_⟩
  unfold fSorted at hf
  split at hf
  · rename_i es
    obtain ⟨v, rfl, r0⟩ := pair1 r
    obtain ⟨a, xs, rfl, h1, r1⟩ := Re.list ok r0
    cases hi : intsOf es with
    | some ns =>
      rw [hi] at hf
      cases hf
      have := intsOf_eq hi
      subst this
      have := r1.ints
      subst this
      refine .inl ⟨a, ns, rfl, .of h1, fun ns' p hp hs np => ?_⟩
      have e : ns' = sortB ltI ns := srt_uniq swo_ltI (fun x y h1 h2 => by simp at h1 h2; omega) (hp.trans (sortB_perm ns).symm) (List.Pairwise.imp (fun {a b} h => by simp; exact h) hs) (sortB_srtd swo_ltI ns)
      subst e
      exact new_lst ok (.of_ints _) q p np
    | none =>
      rw [hi] at hf
      cases ht : tupsOf es with
      | none => rw [ht] at hf; cases hf
      | some nss =>
        rw [ht] at hf
        cases hf
        obtain ⟨e1, e2⟩ := tupsOf_eq ht
        subst e1
        obtain ⟨k1, k2⟩ := drall_keys r1
        refine .inr ⟨a, xs, keyG M.G, rfl, .of h1, fun x hx => ⟨?_, ?_⟩, fun ys p hs hb np => ?_⟩
        · obtain ⟨_, t, e3, e4⟩ := keyG_dr (k2 x hx)
          exact ⟨t, e3, ok.g _ _ e4⟩
        · refine e2 _ ?_
          rw [← k1]
          exact List.mem_map.mpr ⟨x, hx, rfl⟩
        · have hd : DrAll M.G ys (ys.map fun y => tupD (keyG M.G y)) := drall_of _ fun y hy => k2 y (hb.perm.mem_iff.mp hy)
          have e : ys.map (keyG M.G) = sortB lexI nss := by
            refine srt_uniq (swo_lexI id) lexI_eq (((hb.perm.map (keyG M.G)).trans (by rw [k1])).trans (sortB_perm nss).symm) (List.pairwise_map.mpr hs) (sortB_srtd (swo_lexI id) nss)
          have e3 : (ys.map fun y => tupD (keyG M.G y)) = (sortB lexI nss).map tupD := by
            rw [← e, List.map_map]
            rfl
          rw [e3] at hd
          exact new_lst ok hd q p np
  · cases hf
end
theorem e_sorted_i (ns : List Int) : fSorted [.py (.list (ns.map .int))] = some (.py (.list ((sortB ltI ns).map .int))) := by simp [fSorted]
/-- items in their order -/
def itL (q : Itm) : List Int := [q.1, q.2.1, q.2.2]
abbrev ltItm (p q : Itm) : Bool := lexI (itL p) (itL q)
theorem tupsOf_its : ∀ its : List Itm, tupsOf (its.map itD) = some (its.map itL)
  | [] => rfl
  | q :: its => by simp [tupsOf, intsOf, tupsOf_its its, itL]
theorem e_sorted_it (its : List Itm) : fSorted [.py (.list (its.map itD))] = some (.py (.list ((sortB ltItm its).map itD))) := by
  cases its with
  | nil => rfl
  | cons q its =>
    have h0 : intsOf ((q :: its).map itD) = none := rfl
    have e : (sortB lexI ((q :: its).map itL)).map tupD = (sortB ltItm (q :: its)).map itD := by
      rw [← sortB_map itL, List.map_map]
      rfl
    simp only [fSorted, h0, tupsOf_its, Option.map_some, e]
end RT
end
section
set_option Elab.async false
set_option linter.all false
set_option maxRecDepth 100000
set_option maxHeartbeats 8000000
namespace RT
open PySem PySem.Spec PyProof.Rows L2
/-! ### items within a set -/
def climb (ns : List Int) (a d : Int) : Nat → Int → List Itm
  | 0, _ => []
  | n + 1, l => if l ∈ ns then (a, l, d) :: climb ns a d n (l + d) else []
def foundAt (ns : List Int) (a b : Int) : List Itm := if a < b then climb ns a (b - a) 11 b else []
def foundOf (ns : List Int) : List Itm := ns.flatMap fun a => (a, a, 1) :: ns.flatMap fun b => foundAt ns a b
def insideOf (ns : List Int) : List Itm := itemsAll.filter fun q => (numbersOf q).all fun k => decide (k ∈ ns)
theorem within_all : ∀ ns ∈ subs ten, sortB ltItm (foundOf ns) = insideOf ns := by decide +kernel
end RT
end
section
set_option Elab.async false
set_option linter.all false
set_option maxRecDepth 100000
set_option maxHeartbeats 8000000
namespace RT
open PySem PySem.Spec PyProof.Rows L2
local macro_rules | `(tactic| simp_arith [$ts,*] $[$loc]?) => `(tactic| simp only [$ts,*, wVar, wOwn, wC, wOp, wT, wChain, wAndT, wOrT, wNotT, wAnd, wOr, wNot, wIf, wNil, wCons, wDisp, wCall, wCall0, wNoPart, wPart, wSl, wRevL, wBlt, wItL, wItT, wItS, wRg1, wRg2, wEnum, wZip, wLR, wLR2, wYes, wM1, wFmt, wJoined, wIsi, wNeg, wNewD, wOwnCat, wPar2, wNext, wSeq, wNever, wSet, wNew, wAug, wExtend, wAppend, wPut, wFrz, wRet, wRetOwn, wRetN, wDrop, wIfS, wgName, wgTup, wUnp, wRaise, bodyEN, wLc, wFor, wSortSet, e_add_i, e_add_s, e_add_l, e_add_t, e_kadd_i, e_kadd_s, e_kadd_l, e_kadd_t, e_sub, e_kt, e_mul_i, e_mul_l, e_kmul_i, e_kmul_l, e_div, e_kdiv, e_mod, e_kmod, e_cmp, e_eq, e_ne, e_keq, e_is_n, e_is_b, e_isn_n, e_isn_b, e_non_n, e_non_l, e_non_t, e_non_i, e_non_s, e_non_b, e_non_x, e_in_l, e_in_t, e_ni_l, e_ni_t, e_kin_l, e_kin_t, e_kin_s, e_ix_l, e_ix_t, e_ix_s, e_kix_l, e_kix_t, e_kix_s, e_sl_l, e_sl_t, e_sl_s, e_len_l, e_len_t, e_len_s, e_klen_l, e_klen_t, e_klen_s, e_kany, e_list_l, e_list_t, e_tup_l, e_tup_t, e_sum, e_max, e_max2, e_min, e_kne, e_kne2, e_all, e_str, e_kstr, e_int, e_kint, e_split, e_ksplit, e_part, e_kpart, e_join, e_kjoin, e_pys0, e_pys1, e_sa0, e_sa1, e_wipe0, e_wipe1, e_js0, e_js1, e_ty_i, e_ty_b, e_ty_n, e_ty_s, e_ty_l, e_ty_t, e_isi_ii, e_isi_ib, e_isi_in, e_isi_is, e_isi_il, e_isi_it, e_isi_bi, e_isi_bb, e_isi_bn, e_isi_bs, e_isi_bl, e_isi_bt, e_isi_li, e_isi_lb, e_isi_ln, e_isi_ls, e_isi_ll, e_isi_lt, e_isi_ti, e_isi_tb, e_isi_tn, e_isi_ts, e_isi_tl, e_isi_tt, e_isi_si, e_isi_sb, e_isi_sn, e_isi_ss, e_isi_sl, e_isi_st, e_up, e_st0, e_st1, e_st2, exists_eq_left, exists_eq_left', exists_eq_right, exists_eq_right', exists_eq', exists_eq, true_and, and_true, and_self, false_and, and_false, exists_and_left, exists_and_right, exists_const, Option.some.injEq, Option.map_some, Option.map_none, Sl.is.injEq, Sl.own.injEq, D.py.injEq, D.ex.injEq, D.rf.injEq, PyData.int.injEq, PyData.bool.injEq, PyData.str.injEq, PyData.list.injEq, PyData.tuple.injEq, List.cons.injEq, if_true, if_false, eq_self, Bool.false_eq_true, Bool.true_eq_false, Bool.not_true, Bool.not_false, Bool.not_not, List.getElem?_cons_zero, List.getElem?_cons_succ, List.set_cons_zero, List.set_cons_succ, List.length_cons, List.length_nil, List.cons_append, List.nil_append, reduceCtorEq, List.replicate_zero, List.replicate_succ, Nat.reduceAdd, Nat.reduceSub, decide_true, decide_false, intsOf_map', blsOf_map', strsOf_map', map_int_inj, map_str_inj, map_bool_inj, map_itD_inj, itD_iff, sh_int, sh_bool, sh_none, sh_itD, sh_nil, sh_ints, sh_its, eqv_int, eqv_bool, eqv_str, eqv_itD, eqv_ints, eqv_strs, eqv_its, eqv_nil, Nat.zero_le, and_assoc] $[$loc]?)
theorem climb_len (ns : List Int) (a d : Int) : ∀ (n : Nat) (l : Int), (climb ns a d n l).length ≤ n
  | 0, _ => Nat.le_refl 0
  | n + 1, l => by
    unfold climb
    split
    · have := climb_len ns a d n (l + d)
      simp only [List.length_cons]
      omega
    · simp
theorem foundAt_len (ns : List Int) (a b : Int) : (foundAt ns a b).length ≤ 11 := by
  unfold foundAt
  split
  · exact climb_len _ _ _ _ _
  · simp
theorem flat_le {α β : Type} (f : α → List β) (k : Nat) : ∀ xs : List α, (∀ x ∈ xs, (f x).length ≤ k) → (xs.flatMap f).length ≤ xs.length * k
  | [], _ => by simp
  | x :: xs, h => by
    have h1 := h x List.mem_cons_self
    have h2 := flat_le f k xs fun y hy => h y (List.mem_cons_of_mem _ hy)
    simp only [List.flatMap_cons, List.length_append, List.length_cons, Nat.add_mul, Nat.one_mul]
    omega
def sp_within_of : Spec0 := fun ds N _ => ∃ ns : List Int, ds = [.py (.list (ns.map .int))] ∧ ns ∈ subs ten ∧ N (.py (.list ((insideOf ns).map itD)))
def w_within_of : WS Unit :=
  wSeq (wNew 1) (wSeq (wFor (wItL (wVar 0)) (wgName 2) (wSeq (wAppend 1 (wDisp .tuple (wCons (wVar 2) (wCons (wVar 2) (wCons (wC (.int 1)) (wNil)))))) (wFor (wItL (wVar 0)) (wgName 3) (wIfS (wT (wOp fGt kTrue (wVar 3) (wVar 2))) (wSeq (wSet 4 (wVar 3)) (wWhile (wT (wOp fIn kIn (wVar 4) (wVar 0))) (wSeq (wAppend 1 (wDisp .tuple (wCons (wVar 2) (wCons (wVar 4) (wCons (wOp fSub kTrue (wVar 3) (wVar 2)) (wNil)))))) (wAug 4 fAdd kInts (wOp fSub kTrue (wVar 3) (wVar 2)))))) (wNext))))) (wFrz 1 (wRet (wBlt fSorted kAny (wCons (wVar 1) (wNil))))))
/-- the while of it -/
theorem wh_climb {ns : List Int} (hs : ns ∈ subs ten) {a b : Int} {R : EN Unit} {s5 : Sl} (hab : a < b) : ∀ (n : Nat) (l : Int) (acc : List Itm), 11 - l ≤ (n : Int) → b ≤ l → acc.length + n ≤ 5000 →
    (∀ l', R.nx [.is (.py (.list (ns.map .int))), .own ((acc ++ climb ns a (b - a) n l).map itD), .is (.py (.int a)), .is (.py (.int b)), .is (.py (.int l'))] ()) →
    whGo (wT (wOp fIn kIn (wVar 4) (wVar 0))) (wSeq (wAppend 1 (wDisp .tuple (wCons (wVar 2) (wCons (wVar 4) (wCons (wOp fSub kTrue (wVar 3) (wVar 2)) (wNil)))))) (wAug 4 fAdd kInts (wOp fSub kTrue (wVar 3) (wVar 2)))) R (n + 1)
      [.is (.py (.list (ns.map .int))), .own (acc.map itD), .is (.py (.int a)), .is (.py (.int b)), .is (.py (.int l))] ()
  | 0, l, acc, h, hb, hl, hR => by
    have nl : ¬ l ∈ ns := fun q => by
      have := ten_iff.mp (subs_ten hs q)
      omega
    simp_arith [whGo, any_ints, nl]
    have := hR l
    simpa [climb] using this
  | n + 1, l, acc, h, hb, hl, hR => by
    have l3 : (3 ≤ sizeLine) = True := eq_true (by decide)
    unfold whGo
    simp_arith [any_ints]
    by_cases hq : l ∈ ns
    · have hz : (acc.map itD).length < sizeLine := by
        rw [List.length_map]
        have := le_line (n := 6000) (by omega)
        omega
      simp_arith [hq, l3, hz]
      have ih := wh_climb hs (R := R) (s5 := s5) hab n (l + (b - a)) (acc ++ [(a, l, b - a)]) (by omega) (by omega) (by simp; omega) (fun l' => by
        have := hR l'
        unfold climb at this
        rw [if_pos hq] at this
        simpa using this)
      have em : (acc ++ [((a, l, b - a) : Itm)]).map itD = acc.map itD ++ [.tuple [.int a, .int l, .int (b - a)]] := by simp
      rw [em] at ih
      exact ih
    · simp_arith [hq]
      have := hR l
      unfold climb at this
      rw [if_neg hq] at this
      simpa using this
theorem law_within_of : ∀ ds θ N Nx, sp_within_of.up ds θ N Nx → w_within_of (bodyEN N Nx) (startD 5 ds) θ := by
  rintro ds θ N Nx ⟨ns, rfl, hs, n⟩
  have hl := subs_len hs
  simp_arith [w_within_of]
  refine forGo_inv2 PyData.int (fun (xs : List Int) (ρ : DS) (_ : Unit) => ∃ (zs : List Int) (s2 s3 s4 : Sl), ns = zs ++ xs ∧ ρ = [.is (.py (.list (ns.map .int))), .own ((zs.flatMap fun a => (a, a, 1) :: ns.flatMap fun b => foundAt ns a b).map itD), s2, s3, s4])
    (fun a xs ρ θ h R hR => ?_) (fun ρ θ h => ?_) _ _ _ ⟨[], .no, .no, .no, rfl, rfl⟩
  · obtain ⟨zs, s2, s3, s4, e, rfl⟩ := h
    have lz : zs.length ≤ 10 := by
      have := congrArg List.length e
      simp at this
      omega
    have lin : ∀ a : Int, ((a, a, 1) :: ns.flatMap fun b => foundAt ns a b : List Itm).length ≤ 111 := fun a => by
      have := flat_le (fun b => foundAt ns a b) 11 ns fun b _ => foundAt_len ns a b
      simp only [List.length_cons]
      omega
    have lo : (zs.flatMap fun a => ((a, a, 1) :: ns.flatMap fun b => foundAt ns a b : List Itm)).length ≤ 1110 := by
      have := flat_le (fun a => ((a, a, 1) :: ns.flatMap fun b => foundAt ns a b : List Itm)) 111 zs fun a _ => lin a
      omega
    generalize hA : (zs.flatMap fun a => ((a, a, 1) :: ns.flatMap fun b => foundAt ns a b : List Itm)) = accA at lo ⊢
    have hz : (accA.map itD).length < sizeLine := by
      rw [List.length_map]
      have := le_line (n := 6000) (by omega)
      omega
    have l3 : (3 ≤ sizeLine) = True := eq_true (by decide)
    simp_arith [l3, hz]
    refine forGo_inv2 PyData.int (fun (ys : List Int) (ρ : DS) (_ : Unit) => ∃ (us : List Int) (s3 s4 : Sl), ns = us ++ ys ∧ ρ = [.is (.py (.list (ns.map .int))), .own ((accA ++ ((a, a, 1) :: us.flatMap fun b => foundAt ns a b)).map itD), .is (.py (.int a)), s3, s4])
      (fun b ys ρ θ h R' hR' => ?_) (fun ρ θ h => ?_) _ _ _ ⟨[], s3, s4, rfl, by simp⟩
    · obtain ⟨us, s3, s4, e2, rfl⟩ := h
      have lu : us.length ≤ 10 := by
        have := congrArg List.length e2
        simp at this
        omega
      simp_arith [and_true]
      have nx : ∀ x4, R' [.is (.py (.list (ns.map .int))), .own ((accA ++ ((a, a, 1) :: us.flatMap fun b => foundAt ns a b) ++ foundAt ns a b).map itD), .is (.py (.int a)), .is (.py (.int b)), x4] θ := fun x4 => hR' _ _ ⟨us ++ [b], .is (.py (.int b)), x4, by rw [e2]; simp, by simp⟩
      by_cases hab : a < b
      · have ed : decide (b > a) = true := decide_eq_true hab
        simp_arith [ed]
        refine ⟨12, ?_⟩
        unfold foundAt at nx
        rw [if_pos hab] at nx
        have hb1 : 1 ≤ b := by
          have : b ∈ ns := by rw [e2]; simp
          exact (ten_iff.mp (subs_ten hs this)).1
        refine wh_climb hs (s5 := .no) hab 11 b _ (by omega) (Int.le_refl b) ?_ (fun l' => nx _)
        have := flat_le (fun b => foundAt ns a b) 11 us fun b _ => foundAt_len ns a b
        simp only [List.length_append, List.length_cons]
        have e3 : (us.flatMap fun b => foundAt ns a b).length = (us.flatMap fun b => if a < b then climb ns a (b - a) 11 b else []).length := rfl
        omega
      · have ed : decide (b > a) = false := decide_eq_false hab
        simp_arith [ed]
        unfold foundAt at nx
        rw [if_neg hab, List.append_nil] at nx
        exact nx _
    · obtain ⟨us, s3, s4, e2, rfl⟩ := h
      rw [List.append_nil] at e2
      refine hR _ _ ⟨zs ++ [a], .is (.py (.int a)), s3, s4, by rw [e]; simp, ?_⟩
      rw [← hA, ← e2]
      simp
  · obtain ⟨zs, s2, s3, s4, e, rfl⟩ := h
    rw [List.append_nil] at e
    subst e
    simp_arith [e_sorted_it]
    have := within_all _ hs
    unfold foundOf at this
    rw [this]
    exact n
def sp_items_within : Spec0 := fun ds N Nx => ∃ d, ds = [.py d] ∧ Fine d ∧ (match setD d with | some ns => N (.py (.list ((insideOf ns).map itD))) | none => Nx .set)
def w_items_within : WS Unit :=
  wSeq (wDrop (wCall0 sp_check_set (wCons (wVar 0) (wNil)))) (wRet (wCall0 sp_within_of (wCons (wVar 0) (wNil))))
theorem law_items_within : ∀ ds θ N Nx, sp_items_within.up ds θ N Nx → w_items_within (bodyEN N Nx) (startD 1 ds) θ := by
  rintro ds θ N Nx ⟨d, rfl, fn, n⟩
  simp_arith [w_items_within, sp_check_set]
  refine ⟨fn, ?_⟩
  rw [isSetD_eq]
  cases h : setD d with
  | none => simp_arith [h, Option.isSome_none] at n ⊢; exact n
  | some ns =>
    obtain ⟨rfl, hs⟩ := setD_some h
    simp_arith [h, Option.isSome_some, sp_within_of] at n ⊢
    exact ⟨(setI_iff.mp hs).1, n⟩
end RT
end
section
set_option Elab.async false
set_option linter.all false
set_option maxRecDepth 100000
set_option maxHeartbeats 8000000
namespace RT
open PySem PySem.Spec PyProof.Rows L2
local macro_rules | `(tactic| simp_arith [$ts,*] $[$loc]?) => `(tactic| simp only [$ts,*, wVar, wOwn, wC, wOp, wT, wChain, wAndT, wOrT, wNotT, wAnd, wOr, wNot, wIf, wNil, wCons, wDisp, wCall, wCall0, wNoPart, wPart, wSl, wRevL, wBlt, wItL, wItT, wItS, wRg1, wRg2, wEnum, wZip, wLR, wLR2, wYes, wM1, wFmt, wJoined, wIsi, wNeg, wNewD, wOwnCat, wPar2, wNext, wSeq, wNever, wSet, wNew, wAug, wExtend, wAppend, wPut, wFrz, wRet, wRetOwn, wRetN, wDrop, wIfS, wgName, wgTup, wUnp, wRaise, bodyEN, wLc, wFor, wSortSet, e_add_i, e_add_s, e_add_l, e_add_t, e_kadd_i, e_kadd_s, e_kadd_l, e_kadd_t, e_sub, e_kt, e_mul_i, e_mul_l, e_kmul_i, e_kmul_l, e_div, e_kdiv, e_mod, e_kmod, e_cmp, e_eq, e_ne, e_keq, e_is_n, e_is_b, e_isn_n, e_isn_b, e_non_n, e_non_l, e_non_t, e_non_i, e_non_s, e_non_b, e_non_x, e_in_l, e_in_t, e_ni_l, e_ni_t, e_kin_l, e_kin_t, e_kin_s, e_ix_l, e_ix_t, e_ix_s, e_kix_l, e_kix_t, e_kix_s, e_sl_l, e_sl_t, e_sl_s, e_len_l, e_len_t, e_len_s, e_klen_l, e_klen_t, e_klen_s, e_kany, e_list_l, e_list_t, e_tup_l, e_tup_t, e_sum, e_max, e_max2, e_min, e_kne, e_kne2, e_all, e_str, e_kstr, e_int, e_kint, e_split, e_ksplit, e_part, e_kpart, e_join, e_kjoin, e_pys0, e_pys1, e_sa0, e_sa1, e_wipe0, e_wipe1, e_js0, e_js1, e_ty_i, e_ty_b, e_ty_n, e_ty_s, e_ty_l, e_ty_t, e_isi_ii, e_isi_ib, e_isi_in, e_isi_is, e_isi_il, e_isi_it, e_isi_bi, e_isi_bb, e_isi_bn, e_isi_bs, e_isi_bl, e_isi_bt, e_isi_li, e_isi_lb, e_isi_ln, e_isi_ls, e_isi_ll, e_isi_lt, e_isi_ti, e_isi_tb, e_isi_tn, e_isi_ts, e_isi_tl, e_isi_tt, e_isi_si, e_isi_sb, e_isi_sn, e_isi_ss, e_isi_sl, e_isi_st, e_up, e_st0, e_st1, e_st2, exists_eq_left, exists_eq_left', exists_eq_right, exists_eq_right', exists_eq', exists_eq, true_and, and_true, and_self, false_and, and_false, exists_and_left, exists_and_right, exists_const, Option.some.injEq, Option.map_some, Option.map_none, Sl.is.injEq, Sl.own.injEq, D.py.injEq, D.ex.injEq, D.rf.injEq, PyData.int.injEq, PyData.bool.injEq, PyData.str.injEq, PyData.list.injEq, PyData.tuple.injEq, List.cons.injEq, if_true, if_false, eq_self, Bool.false_eq_true, Bool.true_eq_false, Bool.not_true, Bool.not_false, Bool.not_not, List.getElem?_cons_zero, List.getElem?_cons_succ, List.set_cons_zero, List.set_cons_succ, List.length_cons, List.length_nil, List.cons_append, List.nil_append, reduceCtorEq, List.replicate_zero, List.replicate_succ, Nat.reduceAdd, Nat.reduceSub, decide_true, decide_false, intsOf_map', blsOf_map', strsOf_map', map_int_inj, map_str_inj, map_bool_inj, map_itD_inj, itD_iff, sh_int, sh_bool, sh_none, sh_itD, sh_nil, sh_ints, sh_its, eqv_int, eqv_bool, eqv_str, eqv_itD, eqv_ints, eqv_strs, eqv_its, eqv_nil, Nat.zero_le, and_assoc] $[$loc]?)
/-! ### the greatest items, items' own functions -/
def widerP (q far : Itm) : Bool := !decide (far = q) && (numbersOf q).all fun k => decide (k ∈ numbersOf far)
def greatestOf (ns : List Int) : List Itm := (insideOf ns).filter fun q => ((insideOf ns).filter (widerP q)).isEmpty
theorem inside_ok {ns : List Int} {q : Itm} (h : q ∈ insideOf ns) : itemOk q = true := item_mem.mpr (List.mem_filter.mp h).1
theorem inside_len (ns : List Int) : (insideOf ns).length ≤ 110 := by
  have := List.length_filter_le (fun q : Itm => (numbersOf q).all fun k => decide (k ∈ ns)) itemsAll
  have e : itemsAll.length = 110 := by decide +kernel
  rw [e] at this
  exact this
def sp_greatest_of : Spec0 := fun ds N _ => ∃ ns : List Int, ds = [.py (.list (ns.map .int))] ∧ ns ∈ subs ten ∧ N (.py (.list ((greatestOf ns).map itD)))
def w_greatest_of : WS Unit :=
  wSeq (wSet 1 (wCall0 sp_within_of (wCons (wVar 0) (wNil)))) (wSeq (wNew 2) (wSeq (wFor (wItL (wVar 1)) (wgName 3) (wSeq (wSet 4 (wCall0 sp_numbers_of (wCons (wVar 3) (wNil)))) (wSeq (wSet 5 (wLc (wItL (wVar 1)) (wgName 6) (wAndT (wT (wOp fNe kEq (wVar 6) (wVar 3))) (wT (wBlt fAll kAny (wCons (wLc (wItL (wVar 4)) (wgName 7) (wYes) (wOp fIn kIn (wVar 7) (wCall0 sp_numbers_of (wCons (wVar 6) (wNil)))) [7]) (wNil))))) (wVar 6) [6])) (wIfS (wT (wOp fEq kEq (wVar 5) (wDisp .list (wNil)))) (wAppend 2 (wVar 3)) (wNext))))) (wFrz 2 (wRet (wVar 2)))))
theorem law_greatest_of : ∀ ds θ N Nx, sp_greatest_of.up ds θ N Nx → w_greatest_of (bodyEN N Nx) (startD 8 ds) θ := by
  rintro ds θ N Nx ⟨ns, rfl, hs, n⟩
  have il := inside_len ns
  simp_arith [w_greatest_of, sp_within_of]
  refine ⟨hs, ?_⟩
  refine forGo_inv2 itD (fun (xs : List Itm) (ρ : DS) (_ : Unit) => ∃ (zs : List Itm) (s3 s4 s5 : Sl), insideOf ns = zs ++ xs ∧ ρ = [.is (.py (.list (ns.map .int))), .is (.py (.list ((insideOf ns).map itD))), .own ((zs.filter fun q => ((insideOf ns).filter (widerP q)).isEmpty).map itD), s3, s4, s5, .no, .no])
    (fun q xs ρ θ h R hR => ?_) (fun ρ θ h => ?_) _ _ _ ⟨[], .no, .no, .no, rfl, rfl⟩
  · obtain ⟨zs, s3, s4, s5, e, rfl⟩ := h
    have hq : q ∈ insideOf ns := by rw [e]; simp
    have okq := inside_ok hq
    have ql := (rg_items q (item_mem.mp okq)).2.2
    simp_arith [sp_numbers_of]
    refine ⟨q, rfl, rfl, rfl, okq, ?_⟩
    refine lcGo_fm2 itD (widerP q) itD _ (fun far hf T F t => ?_) (le_line (by omega)) ?_
    · have okf := inside_ok hf
      simp_arith [and_true]
      unfold widerP at t
      cases hd : decide (far = q) with
      | true =>
        rw [hd] at t
        simp_arith [Bool.false_and] at t ⊢
        exact t
      | false =>
        rw [hd] at t
        simp_arith [Bool.true_and] at t ⊢
        refine lcGo_map2 PyData.int (fun k => .bool (decide (k ∈ numbersOf far))) _ (fun k hk T' t' => ?_) (le_line (by omega)) ?_
        · simp_arith [sp_numbers_of, any_ints]
          exact ⟨far, rfl, rfl, rfl, okf, t'⟩
        · have e : (numbersOf q).map (fun k => PyData.bool (decide (k ∈ numbersOf far))) = ((numbersOf q).map (fun k => decide (k ∈ numbersOf far))).map .bool := by simp
          rw [e]
          simp_arith [List.all_map, Function.comp_def, id]
          exact t
    · simp_arith [List.isEmpty_map]
      have nx := fun s3 s4 s5 => hR [.is (.py (.list (ns.map .int))), .is (.py (.list ((insideOf ns).map itD))), .own (((zs ++ [q]).filter fun q => ((insideOf ns).filter (widerP q)).isEmpty).map itD), s3, s4, s5, .no, .no] θ ⟨zs ++ [q], s3, s4, s5, by rw [e]; simp, rfl⟩
      rw [List.filter_append] at nx
      cases hw : ((insideOf ns).filter (widerP q)).isEmpty with
      | true =>
        simp_arith [and_true]
        have ef : [q].filter (fun q => ((insideOf ns).filter (widerP q)).isEmpty) = [q] := by simp only [List.filter_cons, hw, if_true, List.filter_nil]
        rw [ef] at nx
        refine ⟨?_, by simpa using nx _ _ _⟩
        rw [List.length_map]
        have l1 := List.length_filter_le (fun q => ((insideOf ns).filter (widerP q)).isEmpty) zs
        have l2 := congrArg List.length e
        simp at l2
        have := le_line (n := 1000) (by omega)
        omega
      | false =>
        simp_arith [and_true]
        have ef : [q].filter (fun q => ((insideOf ns).filter (widerP q)).isEmpty) = [] := by simp [List.filter_cons, hw]
        rw [ef, List.append_nil] at nx
        exact nx _ _ _
  · obtain ⟨zs, s3, s4, s5, e, rfl⟩ := h
    rw [List.append_nil] at e
    simp_arith [and_true]
    unfold greatestOf at n
    rw [← e]
    exact n
def sp_greatest_items : Spec0 := fun ds N Nx => ∃ d, ds = [.py d] ∧ Fine d ∧ (match setD d with | some ns => N (.py (.list ((greatestOf ns).map itD))) | none => Nx .set)
def w_greatest_items : WS Unit :=
  wSeq (wDrop (wCall0 sp_check_set (wCons (wVar 0) (wNil)))) (wRet (wCall0 sp_greatest_of (wCons (wVar 0) (wNil))))
theorem law_greatest_items : ∀ ds θ N Nx, sp_greatest_items.up ds θ N Nx → w_greatest_items (bodyEN N Nx) (startD 1 ds) θ := by
  rintro ds θ N Nx ⟨d, rfl, fn, n⟩
  simp_arith [w_greatest_items, sp_check_set]
  refine ⟨fn, ?_⟩
  rw [isSetD_eq]
  cases h : setD d with
  | none => simp_arith [h, Option.isSome_none] at n ⊢; exact n
  | some ns =>
    obtain ⟨rfl, hs⟩ := setD_some h
    simp_arith [h, Option.isSome_some, sp_greatest_of] at n ⊢
    exact ⟨(setI_iff.mp hs).1, n⟩
/-! ### items -/
def itemD : PyData → Option Itm
  | .tuple [.int a, .int b, .int c] => if itemOk (a, b, c) = true then some (a, b, c) else none
  | _ => none
theorem isItemD_eq (d : PyData) : isItemD d = (itemD d).isSome := by
  unfold isItemD itemD
  split
  · rename_i a b c
    cases h : itemOk (a, b, c) <;> simp [h]
  · rename_i hne
    first
      | rfl
      | (split
         · exact absurd rfl (hne _ _ _)
         · rfl)
theorem itemD_some {d : PyData} {q : Itm} (h : itemD d = some q) : d = itD q ∧ itemOk q = true := by
  unfold itemD at h
  split at h
  · split at h
    · rename_i hq
      cases h
      exact ⟨rfl, hq⟩
    · cases h
  · cases h
theorem itemD_it {q : Itm} (h : itemOk q = true) : itemD (itD q) = some q := if_pos h
def sp_check_item : Spec0 := fun ds N Nx => ∃ d, ds = [.py d] ∧ Sz d ∧ (match itemD d with | some _ => N (.py .none) | none => Nx .item)
def w_check_item : WS Unit :=
  wIfS (wNotT (wT (wCall0 sp_is_item (wCons (wVar 0) (wNil))))) (wRaise .item) (wNext)
theorem law_check_item : ∀ ds θ N Nx, sp_check_item.up ds θ N Nx → w_check_item (bodyEN N Nx) (startD 1 ds) θ := by
  rintro ds θ N Nx ⟨d, rfl, fn, n⟩
  simp_arith [w_check_item, sp_is_item]
  refine ⟨fn, ?_⟩
  rw [isItemD_eq]
  cases h : itemD d <;> simp_arith [h, Option.isSome_some, Option.isSome_none] at n ⊢ <;> exact n
def sp_item_numbers : Spec0 := fun ds N Nx => ∃ d, ds = [.py d] ∧ Sz d ∧ (match itemD d with | some q => N (.py (.list ((numbersOf q).map .int))) | none => Nx .item)
def w_item_numbers : WS Unit :=
  wSeq (wDrop (wCall0 sp_check_item (wCons (wVar 0) (wNil)))) (wRet (wCall0 sp_numbers_of (wCons (wVar 0) (wNil))))
theorem law_item_numbers : ∀ ds θ N Nx, sp_item_numbers.up ds θ N Nx → w_item_numbers (bodyEN N Nx) (startD 1 ds) θ := by
  rintro ds θ N Nx ⟨d, rfl, fn, n⟩
  simp_arith [w_item_numbers, sp_check_item]
  refine ⟨fn, ?_⟩
  cases h : itemD d with
  | none => simp_arith [h] at n ⊢; exact n
  | some q =>
    obtain ⟨rfl, ok⟩ := itemD_some h
    simp_arith [h, sp_numbers_of] at n ⊢
    exact ⟨q, rfl, rfl, rfl, ok, n⟩
def sp_item_text : Spec0 := fun ds N Nx => ∃ d, ds = [.py d] ∧ Sz d ∧ (match itemD d with | some q => N (.py (.str (textOf q))) | none => Nx .item)
def w_item_text : WS Unit :=
  wSeq (wDrop (wCall0 sp_check_item (wCons (wVar 0) (wNil)))) (wRet (wCall0 sp_text_of (wCons (wVar 0) (wNil))))
theorem law_item_text : ∀ ds θ N Nx, sp_item_text.up ds θ N Nx → w_item_text (bodyEN N Nx) (startD 1 ds) θ := by
  rintro ds θ N Nx ⟨d, rfl, fn, n⟩
  simp_arith [w_item_text, sp_check_item]
  refine ⟨fn, ?_⟩
  cases h : itemD d with
  | none => simp_arith [h] at n ⊢; exact n
  | some q =>
    obtain ⟨rfl, ok⟩ := itemD_some h
    simp_arith [h, sp_text_of] at n ⊢
    exact ⟨q, rfl, rfl, rfl, ok, n⟩
def wordD : PyData → Option Itm
  | .str z => itemIn z
  | _ => none
def sp_parse_item : Spec0 := fun ds N Nx => ∃ d, ds = [.py d] ∧ TFine d ∧ (match wordD d with | some q => N (.py (itD q)) | none => Nx .item)
def w_parse_item : WS Unit :=
  wSeq (wSet 1 (wIf (wT (wIsi "str" (wVar 0))) (wCall0 sp_item_in (wCons (wVar 0) (wNil))) (wC .none))) (wSeq (wIfS (wT (wOp fIs kTrue (wVar 1) (wC .none))) (wRaise .item) (wNext)) (wRet (wVar 1)))
theorem law_parse_item : ∀ ds θ N Nx, sp_parse_item.up ds θ N Nx → w_parse_item (bodyEN N Nx) (startD 2 ds) θ := by
  rintro ds θ N Nx ⟨d, rfl, fn, n⟩
  cases d with
  | str z =>
    have ok : TOk z := fn
    simp_arith [w_parse_item, sp_item_in]
    refine ⟨ok, ?_⟩
    simp only [wordD] at n
    cases h : itemIn z <;> simp_arith [h, optI] at n ⊢ <;> exact n
  | _ =>
    simp_arith [w_parse_item]
    exact n
end RT
end
section
set_option Elab.async false
set_option linter.all false
set_option maxRecDepth 100000
set_option maxHeartbeats 8000000
namespace RT
open PySem PySem.Spec PyProof.Rows L2
local macro_rules | `(tactic| simp_arith [$ts,*] $[$loc]?) => `(tactic| simp only [$ts,*, wVar, wOwn, wC, wOp, wT, wChain, wAndT, wOrT, wNotT, wAnd, wOr, wNot, wIf, wNil, wCons, wDisp, wCall, wCall0, wNoPart, wPart, wSl, wRevL, wBlt, wItL, wItT, wItS, wRg1, wRg2, wEnum, wZip, wLR, wLR2, wYes, wM1, wFmt, wJoined, wIsi, wNeg, wNewD, wOwnCat, wPar2, wNext, wSeq, wNever, wSet, wNew, wAug, wExtend, wAppend, wPut, wFrz, wRet, wRetOwn, wRetN, wDrop, wIfS, wgName, wgTup, wUnp, wRaise, bodyEN, wLc, wFor, wSortSet, e_add_i, e_add_s, e_add_l, e_add_t, e_kadd_i, e_kadd_s, e_kadd_l, e_kadd_t, e_sub, e_kt, e_mul_i, e_mul_l, e_kmul_i, e_kmul_l, e_div, e_kdiv, e_mod, e_kmod, e_cmp, e_eq, e_ne, e_keq, e_is_n, e_is_b, e_isn_n, e_isn_b, e_non_n, e_non_l, e_non_t, e_non_i, e_non_s, e_non_b, e_non_x, e_in_l, e_in_t, e_ni_l, e_ni_t, e_kin_l, e_kin_t, e_kin_s, e_ix_l, e_ix_t, e_ix_s, e_kix_l, e_kix_t, e_kix_s, e_sl_l, e_sl_t, e_sl_s, e_len_l, e_len_t, e_len_s, e_klen_l, e_klen_t, e_klen_s, e_kany, e_list_l, e_list_t, e_tup_l, e_tup_t, e_sum, e_max, e_max2, e_min, e_kne, e_kne2, e_all, e_str, e_kstr, e_int, e_kint, e_split, e_ksplit, e_part, e_kpart, e_join, e_kjoin, e_pys0, e_pys1, e_sa0, e_sa1, e_wipe0, e_wipe1, e_js0, e_js1, e_ty_i, e_ty_b, e_ty_n, e_ty_s, e_ty_l, e_ty_t, e_isi_ii, e_isi_ib, e_isi_in, e_isi_is, e_isi_il, e_isi_it, e_isi_bi, e_isi_bb, e_isi_bn, e_isi_bs, e_isi_bl, e_isi_bt, e_isi_li, e_isi_lb, e_isi_ln, e_isi_ls, e_isi_ll, e_isi_lt, e_isi_ti, e_isi_tb, e_isi_tn, e_isi_ts, e_isi_tl, e_isi_tt, e_isi_si, e_isi_sb, e_isi_sn, e_isi_ss, e_isi_sl, e_isi_st, e_up, e_st0, e_st1, e_st2, exists_eq_left, exists_eq_left', exists_eq_right, exists_eq_right', exists_eq', exists_eq, true_and, and_true, and_self, false_and, and_false, exists_and_left, exists_and_right, exists_const, Option.some.injEq, Option.map_some, Option.map_none, Sl.is.injEq, Sl.own.injEq, D.py.injEq, D.ex.injEq, D.rf.injEq, PyData.int.injEq, PyData.bool.injEq, PyData.str.injEq, PyData.list.injEq, PyData.tuple.injEq, List.cons.injEq, if_true, if_false, eq_self, Bool.false_eq_true, Bool.true_eq_false, Bool.not_true, Bool.not_false, Bool.not_not, List.getElem?_cons_zero, List.getElem?_cons_succ, List.set_cons_zero, List.set_cons_succ, List.length_cons, List.length_nil, List.cons_append, List.nil_append, reduceCtorEq, List.replicate_zero, List.replicate_succ, Nat.reduceAdd, Nat.reduceSub, decide_true, decide_false, intsOf_map', blsOf_map', strsOf_map', map_int_inj, map_str_inj, map_bool_inj, map_itD_inj, itD_iff, sh_int, sh_bool, sh_none, sh_itD, sh_nil, sh_ints, sh_its, eqv_int, eqv_bool, eqv_str, eqv_itD, eqv_ints, eqv_strs, eqv_its, eqv_nil, Nat.zero_le, and_assoc] $[$loc]?)
/-! ### sets put together -/
def unionI (a b : List Int) : List Int := ten.filter fun k => decide (k ∈ a) || decide (k ∈ b)
theorem union_set {a b : List Int} (ha : a ∈ subs ten) (hb : b ∈ subs ten) : setL (a ++ b) = unionI a b := by
  refine setL_ten (fun k hk => ?_) (List.Pairwise.filter _ ten_asc) fun k => ?_
  · rcases List.mem_append.mp hk with h | h
    · exact subs_ten ha h
    · exact subs_ten hb h
  · unfold unionI
    rw [List.mem_filter, List.mem_append]
    simp only [Bool.or_eq_true, decide_eq_true_eq]
    constructor
    · exact fun h => h.2
    · intro h
      refine ⟨?_, h⟩
      rcases h with h | h
      · exact subs_ten ha h
      · exact subs_ten hb h
theorem union_subs (a b : List Int) : unionI a b ∈ subs ten := filter_subs _ _
theorem sub_filter {ns : List Int} (h : ns ∈ subs ten) (p : Int → Bool) : ns.filter p ∈ subs ten := sub_subs (List.filter_sublist.trans (subs_sub h))
def sp_both : Spec0 := fun ds N Nx => ∃ d e, ds = [.py d, .py e] ∧ Fine d ∧ Fine e ∧ (match setD d with
  | some a => (match setD e with | some b => N (.py (.list ((unionI a b).map .int))) | none => Nx .set)
  | none => Nx .set)
def w_both : WS Unit :=
  wSeq (wDrop (wCall0 sp_check_set (wCons (wVar 0) (wNil)))) (wSeq (wDrop (wCall0 sp_check_set (wCons (wVar 1) (wNil)))) (wRet (wSortSet (wOp fAdd kAdd (wVar 0) (wVar 1)))))
theorem law_both : ∀ ds θ N Nx, sp_both.up ds θ N Nx → w_both (bodyEN N Nx) (startD 2 ds) θ := by
  rintro ds θ N Nx ⟨d, e, rfl, fd, fe, n⟩
  simp_arith [w_both, sp_check_set]
  refine ⟨fd, ?_⟩
  rw [isSetD_eq]
  cases h : setD d with
  | none => simp_arith [h, Option.isSome_none] at n ⊢; exact n
  | some a =>
    obtain ⟨rfl, hs⟩ := setD_some h
    simp_arith [h, Option.isSome_some] at n ⊢
    refine ⟨fe, ?_⟩
    rw [isSetD_eq]
    cases h2 : setD e with
    | none => simp_arith [h2, Option.isSome_none] at n ⊢; exact n
    | some b =>
      obtain ⟨rfl, hs2⟩ := setD_some h2
      have ha := (setI_iff.mp hs).1
      have hb := (setI_iff.mp hs2).1
      have la := subs_len ha
      have lb := subs_len hb
      simp_arith [h2, Option.isSome_some, ← List.map_append] at n ⊢
      refine ⟨?_, ?_⟩
      · rw [List.length_map, List.length_map]
        exact le_line (by omega)
      · refine ⟨by rw [List.length_append]; omega, fun k hk => ?_, ?_⟩
        · have : k ∈ ten := by
            rcases List.mem_append.mp hk with h | h
            · exact subs_ten ha h
            · exact subs_ten hb h
          have := ten_iff.mp this
          omega
        · rw [union_set ha hb]
          exact n
def sp_common : Spec0 := fun ds N Nx => ∃ d e, ds = [.py d, .py e] ∧ Fine d ∧ Fine e ∧ (match setD d with
  | some a => (match setD e with | some b => (if (a.filter fun k => decide (k ∈ b)).isEmpty = true then Nx .none else N (.py (.list ((a.filter fun k => decide (k ∈ b)).map .int)))) | none => Nx .set)
  | none => Nx .set)
def w_common : WS Unit :=
  wSeq (wDrop (wCall0 sp_check_set (wCons (wVar 0) (wNil)))) (wSeq (wDrop (wCall0 sp_check_set (wCons (wVar 1) (wNil)))) (wSeq (wSet 2 (wLc (wItL (wVar 0)) (wgName 3) (wT (wOp fIn kIn (wVar 3) (wVar 1))) (wVar 3) [3])) (wSeq (wIfS (wT (wOp fEq kEq (wVar 2) (wDisp .list (wNil)))) (wRaise .none) (wNext)) (wRet (wVar 2)))))
theorem law_common : ∀ ds θ N Nx, sp_common.up ds θ N Nx → w_common (bodyEN N Nx) (startD 4 ds) θ := by
  rintro ds θ N Nx ⟨d, e, rfl, fd, fe, n⟩
  simp_arith [w_common, sp_check_set]
  refine ⟨fd, ?_⟩
  rw [isSetD_eq]
  cases h : setD d with
  | none => simp_arith [h, Option.isSome_none] at n ⊢; exact n
  | some a =>
    obtain ⟨rfl, hs⟩ := setD_some h
    simp_arith [h, Option.isSome_some] at n ⊢
    refine ⟨fe, ?_⟩
    rw [isSetD_eq]
    cases h2 : setD e with
    | none => simp_arith [h2, Option.isSome_none] at n ⊢; exact n
    | some b =>
      obtain ⟨rfl, hs2⟩ := setD_some h2
      have la := subs_len (setI_iff.mp hs).1
      simp_arith [h2, Option.isSome_some] at n ⊢
      refine lcGo_fm2 PyData.int (fun k => decide (k ∈ b)) PyData.int _ (fun k hk T F t => ?_) (le_line (by omega)) ?_
      · simp_arith [any_ints]
        exact t
      · simp_arith [List.isEmpty_map]
        cases he : (a.filter fun k => decide (k ∈ b)).isEmpty <;> rw [he] at n <;> simp_arith [and_true] at n ⊢ <;> exact n
def sp_less : Spec0 := fun ds N Nx => ∃ d e, ds = [.py d, .py e] ∧ Fine d ∧ Fine e ∧ (match setD d with
  | some a => (match setD e with | some b => (if (a.filter fun k => !decide (k ∈ b)).isEmpty = true then Nx .none else N (.py (.list ((a.filter fun k => !decide (k ∈ b)).map .int)))) | none => Nx .set)
  | none => Nx .set)
def w_less : WS Unit :=
  wSeq (wDrop (wCall0 sp_check_set (wCons (wVar 0) (wNil)))) (wSeq (wDrop (wCall0 sp_check_set (wCons (wVar 1) (wNil)))) (wSeq (wSet 2 (wLc (wItL (wVar 0)) (wgName 3) (wT (wOp fNi kIn (wVar 3) (wVar 1))) (wVar 3) [3])) (wSeq (wIfS (wT (wOp fEq kEq (wVar 2) (wDisp .list (wNil)))) (wRaise .none) (wNext)) (wRet (wVar 2)))))
theorem law_less : ∀ ds θ N Nx, sp_less.up ds θ N Nx → w_less (bodyEN N Nx) (startD 4 ds) θ := by
  rintro ds θ N Nx ⟨d, e, rfl, fd, fe, n⟩
  simp_arith [w_less, sp_check_set]
  refine ⟨fd, ?_⟩
  rw [isSetD_eq]
  cases h : setD d with
  | none => simp_arith [h, Option.isSome_none] at n ⊢; exact n
  | some a =>
    obtain ⟨rfl, hs⟩ := setD_some h
    simp_arith [h, Option.isSome_some] at n ⊢
    refine ⟨fe, ?_⟩
    rw [isSetD_eq]
    cases h2 : setD e with
    | none => simp_arith [h2, Option.isSome_none] at n ⊢; exact n
    | some b =>
      obtain ⟨rfl, hs2⟩ := setD_some h2
      have la := subs_len (setI_iff.mp hs).1
      simp_arith [h2, Option.isSome_some] at n ⊢
      refine lcGo_fm2 PyData.int (fun k => !decide (k ∈ b)) PyData.int _ (fun k hk T F t => ?_) (le_line (by omega)) ?_
      · simp_arith [any_ints]
        exact t
      · simp_arith [List.isEmpty_map]
        cases he : (a.filter fun k => !decide (k ∈ b)).isEmpty <;> rw [he] at n <;> simp_arith [and_true] at n ⊢ <;> exact n
def othersOf (ns : List Int) : List Int := ten.filter fun k => !decide (k ∈ ns)
def sp_others : Spec0 := fun ds N Nx => ∃ d, ds = [.py d] ∧ Fine d ∧ (match setD d with
  | some a => (if (othersOf a).isEmpty = true then Nx .none else N (.py (.list ((othersOf a).map .int))))
  | none => Nx .set)
def w_others : WS Unit :=
  wSeq (wDrop (wCall0 sp_check_set (wCons (wVar 0) (wNil)))) (wSeq (wSet 1 (wLc (wRg2 (wCons (wC (.int 1)) (wCons (wOp fAdd kAdd (wC (.int 10)) (wC (.int 1))) (wNil)))) (wgName 2) (wT (wOp fNi kIn (wVar 2) (wVar 0))) (wVar 2) [2])) (wSeq (wIfS (wT (wOp fEq kEq (wVar 1) (wDisp .list (wNil)))) (wRaise .none) (wNext)) (wRet (wVar 1))))
theorem rg10 : rgI 1 ((10 : Int) + 1 - 1).toNat = ten := by decide +kernel
theorem law_others : ∀ ds θ N Nx, sp_others.up ds θ N Nx → w_others (bodyEN N Nx) (startD 3 ds) θ := by
  rintro ds θ N Nx ⟨d, rfl, fd, n⟩
  simp_arith [w_others, sp_check_set]
  refine ⟨fd, ?_⟩
  rw [isSetD_eq]
  cases h : setD d with
  | none => simp_arith [h, Option.isSome_none] at n ⊢; exact n
  | some a =>
    obtain ⟨rfl, hs⟩ := setD_some h
    simp_arith [h, Option.isSome_some, rgD_eq] at n ⊢
    refine ⟨by omega, by omega, by omega, by omega, ?_⟩
    rw [rg10]
    refine lcGo_fm2 PyData.int (fun k => !decide (k ∈ a)) PyData.int _ (fun k hk T F t => ?_) (by decide) ?_
    · simp_arith [any_ints]
      exact t
    · simp_arith [List.isEmpty_map]
      unfold othersOf at n
      cases he : (ten.filter fun k => !decide (k ∈ a)).isEmpty <;> rw [he] at n <;> simp_arith [and_true] at n ⊢ <;> exact n
def sp_moved : Spec0 := fun ds N Nx => ∃ d e, ds = [.py d, .py e] ∧ Fine d ∧ (match setD d with
  | some a => (match e with
    | .int by_ => if isIntD (-9) 9 (.int by_) = true then (if setI (a.map fun k => k + by_) = true then N (.py (.list ((a.map fun k => k + by_).map .int))) else Nx .set) else Nx .number
    | _ => Nx .number)
  | none => Nx .set)
def w_moved : WS Unit :=
  wSeq (wDrop (wCall0 sp_check_set (wCons (wVar 0) (wNil)))) (wSeq (wIfS (wNotT (wT (wCall0 sp_is_int (wCons (wVar 1) (wCons (wNeg (wC (.int 9))) (wCons (wC (.int 9)) (wNil))))))) (wRaise .number) (wNext)) (wSeq (wSet 2 (wLc (wItL (wVar 0)) (wgName 3) (wYes) (wOp fAdd kAdd (wVar 3) (wVar 1)) [3])) (wSeq (wIfS (wNotT (wT (wCall0 sp_is_set (wCons (wVar 2) (wNil))))) (wRaise .set) (wNext)) (wRet (wVar 2)))))
theorem law_moved : ∀ ds θ N Nx, sp_moved.up ds θ N Nx → w_moved (bodyEN N Nx) (startD 4 ds) θ := by
  rintro ds θ N Nx ⟨d, e, rfl, fd, n⟩
  simp_arith [w_moved, sp_check_set]
  refine ⟨fd, ?_⟩
  rw [isSetD_eq]
  cases h : setD d with
  | none => simp_arith [h, Option.isSome_none] at n ⊢; exact n
  | some a =>
    obtain ⟨rfl, hs⟩ := setD_some h
    have la := subs_len (setI_iff.mp hs).1
    simp_arith [h, Option.isSome_some, sp_is_int] at n ⊢
    cases e with
    | int v =>
      simp only at n
      cases hv : isIntD (-9) 9 (.int v) with
      | false => rw [hv] at n; simp_arith [and_true] at n ⊢; exact n
      | true =>
        rw [hv] at n
        simp_arith [and_true] at n ⊢
        refine lcGo_map2 PyData.int (fun k => .int (k + v)) _ (fun k hk T t => ?_) (le_line (by omega)) ?_
        · simp_arith [and_true]
          exact t
        · have e : (a.map fun k => PyData.int (k + v)) = (a.map fun k => k + v).map .int := by simp
          rw [e]
          have ff : Fine (.list ((a.map fun k => k + v).map .int)) := fine_ints (by rw [List.length_map]; omega)
          have es : isSetD (.list ((a.map fun k => k + v).map .int)) = setI (a.map fun k => k + v) := by simp only [isSetD, intsOf_map']
          simp_arith [sp_is_set, ff, es]
          cases hq : setI (a.map fun k => k + v) <;> rw [hq] at n <;> simp_arith [and_true] at n ⊢ <;> exact n
    | _ =>
      simp_arith [isIntD] at n ⊢
      exact n
def mirrorOf (ns : List Int) : List Int := ns.reverse.map fun k => 11 - k
def sp_mirrored : Spec0 := fun ds N Nx => ∃ d, ds = [.py d] ∧ Fine d ∧ (match setD d with
  | some a => N (.py (.list ((mirrorOf a).map .int)))
  | none => Nx .set)
def w_mirrored : WS Unit :=
  wSeq (wDrop (wCall0 sp_check_set (wCons (wVar 0) (wNil)))) (wRet (wLc (wItL (wRevL (wVar 0))) (wgName 1) (wYes) (wOp fSub kTrue (wOp fAdd kAdd (wC (.int 10)) (wC (.int 1))) (wVar 1)) [1]))
theorem law_mirrored : ∀ ds θ N Nx, sp_mirrored.up ds θ N Nx → w_mirrored (bodyEN N Nx) (startD 2 ds) θ := by
  rintro ds θ N Nx ⟨d, rfl, fd, n⟩
  simp_arith [w_mirrored, sp_check_set]
  refine ⟨fd, ?_⟩
  rw [isSetD_eq]
  cases h : setD d with
  | none => simp_arith [h, Option.isSome_none] at n ⊢; exact n
  | some a =>
    obtain ⟨rfl, hs⟩ := setD_some h
    have la := subs_len (setI_iff.mp hs).1
    simp_arith [h, Option.isSome_some, ← List.map_reverse] at n ⊢
    refine lcGo_map2 PyData.int (fun k => .int (11 - k)) _ (fun k hk T t => ?_) (le_line (by simp; omega)) ?_
    · simp_arith [and_true]
      exact t
    · have e : (a.reverse.map fun k => PyData.int (11 - k)) = (mirrorOf a).map .int := by simp [mirrorOf]
      rw [e]
      exact n
def sp_contains : Spec0 := fun ds N Nx => ∃ d e, ds = [.py d, .py e] ∧ Fine d ∧ TFine e ∧ (match setD d with
  | some a => (match itemsD e with | some its => its.length ≤ 400 ∧ N (.py (.bool ((setOf its).all fun k => decide (k ∈ a)))) | none => Nx .text)
  | none => Nx .set)
def w_contains : WS Unit :=
  wSeq (wDrop (wCall0 sp_check_set (wCons (wVar 0) (wNil)))) (wSeq (wDrop (wCall0 sp_check_text (wCons (wVar 1) (wNil)))) (wRet (wBlt fAll kAny (wCons (wLc (wItL (wCall0 sp_set_of (wCons (wCall0 sp_items_in (wCons (wVar 1) (wNil))) (wNil)))) (wgName 2) (wYes) (wOp fIn kIn (wVar 2) (wVar 0)) [2]) (wNil)))))
theorem law_contains : ∀ ds θ N Nx, sp_contains.up ds θ N Nx → w_contains (bodyEN N Nx) (startD 3 ds) θ := by
  rintro ds θ N Nx ⟨d, e, rfl, fd, fe, n⟩
  simp_arith [w_contains, sp_check_set]
  refine ⟨fd, ?_⟩
  rw [isSetD_eq]
  cases h : setD d with
  | none => simp_arith [h, Option.isSome_none] at n ⊢; exact n
  | some a =>
    obtain ⟨rfl, hs⟩ := setD_some h
    simp_arith [h, Option.isSome_some, sp_check_text, sp_items_in] at n ⊢
    refine ⟨fe, ?_⟩
    cases h2 : itemsD e with
    | none => simp_arith [h2] at n ⊢; exact n
    | some its =>
      simp_arith [h2, optL_some, sp_set_of] at n ⊢
      refine ⟨fe, items_ok h2, n.1, ?_⟩
      have := subs_len (setOf_subs its)
      refine lcGo_map2 PyData.int (fun k => .bool (decide (k ∈ a))) _ (fun k hk T t => ?_) (le_line (by omega)) ?_
      · simp_arith [any_ints]
        exact t
      · have e : (setOf its).map (fun k => PyData.bool (decide (k ∈ a))) = ((setOf its).map (fun k => decide (k ∈ a))).map .bool := by simp
        rw [e]
        simp_arith [List.all_map, Function.comp_def, id]
        exact n.2
end RT
end
section
set_option Elab.async false
set_option linter.all false
set_option maxRecDepth 100000
set_option maxHeartbeats 2000000
namespace RT
open PySem PySem.Spec PyProof.Rows L2
/-! ### try: .. except C as n: kept = n; the exception is known from there on -/
def exHO (cls : Value) (d : Option Addr) (x : Addr) : HO := .ext fun h => ∃ (oe : Obj) (vs : Array Value), h.get? x = some oe ∧ Zc cls d oe ∧ oe.data = .fields vs
section
variable {X : Cx} {pins : List (Addr × Obj)} {σ : L2.St} {H : Hp} {s : Shared}
theorem track {x : Addr} {ob : Obj} {vs : Array Value} {cls : Value} {d : Option Addr} {pn' : List (Addr × Obj)} (I6 : Inv (X.suite x ((x, ob) :: (X.pn ++ pins))) pn' σ H s) (okX : X.Ok) (far : ∀ p ∈ X.pn ++ pins, p.1 ≠ x) (old : X.s_0.heap.get? x = none) (hz : Zc cls d ob) (hv : ob.data = .fields vs) :
    Inv X pins σ (upd H x (exHO cls d x)) s := by
  have J := I6.unsuite okX
  obtain ⟨at0, n0, nl, nf, nc⟩ := I6.pin (x, ob) (List.mem_append_left _ List.mem_cons_self)
  refine ⟨okX, J.os, J.bare, ⟨J.base.keep, J.base.slot, fun b o e z y => ?_, J.base.there, fun b xs e => ?_, fun b o u e => ?_, fun b ps e => ?_⟩, J.loc, J.cell, ?_, fun y c e => ?_, fun p hp => ?_, fun b o e => ?_, J.len⟩
  · have ne : b ≠ x := fun q => by
      rw [q, old] at e
      cases e
    rw [upd_ne ne]
    exact J.base.free b o e z y
  · have q := J.base.tups b xs e
    rw [upd_ne (ne_of_none q n0)]
    exact q
  · have q := J.base.frzs b o u e
    rw [upd_ne (ne_of_none q n0)]
    exact q
  · obtain ⟨more, q⟩ := J.base.tbls b ps e
    refine ⟨more, ?_⟩
    rw [upd_ne (ne_of_none q n0)]
    exact q
  · rw [upd_ne (Ne.symm nl)]
    exact J.free
  · have ne : c ≠ x := fun q => by
      obtain ⟨v, hc⟩ := J.cell y c e
      subst q
      obtain ⟨o', e', hd'⟩ := hc
      have e2 := e'.symm.trans at0
      cases e2
      exact nc v hd'
    rw [upd_ne ne]
    exact J.freeC y c e
  · obtain ⟨p1, p2, p3⟩ := J.pin p hp
    refine ⟨p1, ?_, p3⟩
    rw [upd_ne (far p hp)]
    exact p2
  · by_cases hb : b = x
    · subst hb
      rw [upd_same] at e
      cases e
      refine ⟨⟨ob, vs, at0, hz, hv⟩, ⟨ob, at0⟩, fun h1 h2 ⟨o1, v1, e1, z1, d1⟩ k => ⟨o1, v1, k o1 e1, z1, d1⟩⟩
    · rw [upd_ne hb] at e
      refine (J.hok b o e).stay (fun c u _ q => q) (fun c q => ?_) fun c xs q => ?_
      · rw [upd_ne (ne_of_none q n0)]
        exact q
      · rw [upd_ne (ne_of_none q n0)]
        exact q
end
def wKeep (K : PySem.W.Frag) (c : Value) (i : Nat) (ts : Addr → TS) (D : Ends) : WX := fun cls d σ H =>
  PySem.W.exmOne K cls c = some true ∧ ∀ x, H x = none → ts x { nx := fun σ' H' => H' x = none → D.nx (σ'.set i none) (upd H' x (exHO cls d x)), rt := fun _ _ => False } (σ.set i (some (.ref x))) H
section
variable {X : Cx} {x n : Str} {c : Value} {i : Nat} {body suite : List Stmt} {b0 : Stmt} {np pos pos' : Pos} {tb : WX → TS} {ts : Addr → TS}
theorem ps_try_keep (hs : X.stack = X.env :: X.outer) (hf : X.env.frame = some X.env.locals) (hex : X.ex = []) (hN : X.N.Nodup) (hi : X.N[i]? = some n) (hl : X.env.kindOf n = some .local) (hc : Names X x c)
    (hb : ∀ (W : WX) (pn : List (Addr × Obj)) (xe : Value → Shared → Prop), Takes (X.tr pn xe) W → PSs (X.tr pn xe) body (tb W))
    (hsu : ∀ (y : Addr) (pn : List (Addr × Obj)), PSs (X.suite y pn) (b0 :: suite) (ts y)) :
    PS X (.Try body [.ExceptHandler (some (.Name x np)) (some n) (b0 :: suite) pos'] [] [] pos) (fun D σ H => tb (wKeep X.K c i ts D) D σ H) := by
  refine ⟨fun pins s σ H D I hw => ?_⟩
  have okX := I.ok
  have fr0 : X.A.frames = some (X.env :: X.outer) := by
    rw [okX.frames, hs]
  have loc0 : Loc X.env.scope n := .inl hl
  refine wpAny_Try_except ?_
  have run := (hb (wKeep X.K c i ts D) (X.pn ++ pins) (fun e s1 => wpAny (model X.prog X.w) X.A (noteFrame e X.env) (fun _ s2 => wpAny (model X.prog X.w) X.A (setFlight e none) (fun _ s3 =>
    wpAny (model X.prog X.w) X.A (handleBy e X.env [.ExceptHandler (some (.Name x np)) (some n) (b0 :: suite) pos']) (SP X pins D) X.xe s3) X.xe s2) X.xe s1) (fun u s' air => ?air)).run [] s σ H D (I.toTry _) hw
  · refine wpAny_mono run (fun f s1 hsp => ?_) (fun e s1 he => he)
    cases f with
    | next =>
      obtain ⟨σ1, H1, J1, q1⟩ := hsp
      exact wpAny_execs_nil ⟨σ1, H1, J1.ofTry okX, q1⟩
    | brk =>
      obtain ⟨σ1, H1, J1, q1⟩ := hsp
      exact ⟨σ1, H1, J1.ofTry okX, q1⟩
    | cont =>
      obtain ⟨σ1, H1, J1, q1⟩ := hsp
      exact ⟨σ1, H1, J1.ofTry okX, q1⟩
    | ret u =>
      obtain ⟨v, σ1, H1, J1, r1, q1⟩ := hsp
      exact ⟨v, σ1, H1, J1.ofTry okX, r1, q1⟩
  case air =>
    obtain ⟨y, gr, sI, pins', σ1, H1, cls, d, rfl, J0, nb, up, sky, na, os0, ag0, hyes, hsuite⟩ := air
    have J : Inv X pins σ1 H1 sI := J0.ofTry okX
    have sky1 : Sky gr (X.env :: X.outer) y (Zc cls d) X.env.locals s'.heap := by
      rw [← hs]
      exact sky
    show wpAny (model X.prog X.w) X.A (noteFrame (.ref y) X.env) _ _ _
    refine Sky.land Zc.steady fr0 hf sky1 fun h3 fl3 up3 => ?_
    have J3 : Inv X pins σ1 H1 { s' with heap := h3 } := J.landed nb fl3.1 (up.trans up3) os0 ag0
    obtain ⟨ob3, vs3, at3, hz3, hd3⟩ := fl3.there
    have nfr : y ∉ frs (X.env :: X.outer) := fun hm => by
      obtain ⟨_, o', e', hnf⟩ := fl3.2.2.1.mem hm
      rw [at3] at e'
      cases e'
      exact hnf _ hd3
    have nL : y ≠ X.env.locals := fun z => nfr (List.mem_filterMap.mpr ⟨X.env, List.mem_cons_self, by rw [hf, z]⟩)
    have nF : y ∉ X.fs := fun hm => by
      obtain ⟨e, he, q⟩ := List.mem_filterMap.mp hm
      exact nfr (List.mem_filterMap.mpr ⟨e, List.mem_cons_of_mem _ he, q⟩)
    have newI : sI.heap.get? y = none := by
      cases q : sI.heap.get? y with
      | none => rfl
      | some o =>
        have q2 := nb y o q (by
          show y ∉ frs X.stack
          rw [hs]
          exact nfr)
        have q3 : gr.get? y = none := fl3.2.1
        rw [q3] at q2
        cases q2
    have new0 : X.s_0.heap.get? y = none := by
      cases q : X.s_0.heap.get? y with
      | none => rfl
      | some o =>
        obtain ⟨o2, q2⟩ := J.base.there y o q (by rw [hex]; exact List.not_mem_nil)
        rw [newI] at q2
        cases q2
    have far : ∀ p ∈ X.pn ++ pins, p.1 ≠ y := fun p hp z => by
      have q := (J.pin p hp).1
      rw [z, newI] at q
      cases q
    have S3 := J3.suite at3 hd3 na nL nF
    refine wpAny_handleBy_cons (codeAny_handlers_test ?_) (by intro q; cases q)
    have looks : PySem.W.Looks (model X.prog X.w) h3 (typeOf (.ref y)) cls := fun A Q E s k q => wpAny_typeOf_ref (k _ _ at3) (by rw [hz3.1]; exact q)
    have one := PySem.W.exm_one (M := model X.prog X.w) J3.kIn looks hyes
    have asks : ∀ {Q : Value → Shared → Prop} {E : Value → Shared → Prop}, Q c { s' with heap := h3 } → wpAny (model X.prog X.w) (X.A.mark (some (.ref y))) (eval (.Name x np) X.env) Q E { s' with heap := h3 } := fun {Q E} q => by
      obtain ⟨hg, hdb, hm | ⟨hm, hv, hn2⟩⟩ := hc
      · exact ld_glob (X := X.suite y ((y, ob3) :: (X.pn ++ pins))) S3 hg hm q hdb
      · exact ld_blt (X := X.suite y ((y, ob3) :: (X.pn ++ pins))) S3 hg hm hv q hn2 hdb
    refine asks (one.here ?_)
    refine codeAny_handlers_suite_as ?_
    refine HandSPX.lands_againZ fl3 fun h4 fl4 up4 => ?_
    have J4 : Inv X pins σ1 H1 { s' with heap := h4 } := J.landed nb fl4.1 ((up.trans up3).trans up4) os0 ag0
    obtain ⟨ob4, vs4, at4, hz4, hd4⟩ := fl4.there
    have S4 := J4.suite at4 hd4 na nL nF
    refine store_ok (X := X.suite y ((y, ob4) :: (X.pn ++ pins))) (v := .ref y) S4 hN hi loc0 rfl (fun s5 S5 => ?_) (.inr hl)
    refine wpAny_mono ((hsu y ((y, ob4) :: (X.pn ++ pins))).run [] s5 _ H1 _ S5 (hsuite y na)) (fun f s6 hsp => ?_) (fun _ _ z => False.elim z)
    cases f with
    | next =>
      obtain ⟨σ6, H6, S6, q6⟩ := hsp
      have n6 : H6 y = none := (S6.pin (y, ob4) (List.mem_append_left _ List.mem_cons_self)).2.1
      exact gone_ok (track S6 okX far new0 hz4 hd4) hN hi hl fun s7 J7 => ⟨_, _, J7, q6 n6⟩
    | brk =>
      obtain ⟨σ6, H6, S6, q6⟩ := hsp
      exact q6.elim
    | cont =>
      obtain ⟨σ6, H6, S6, q6⟩ := hsp
      exact q6.elim
    | ret u =>
      obtain ⟨v6, σ6, H6, S6, r6, q6⟩ := hsp
      exact q6.elim
end
end RT
end
section
set_option Elab.async false
set_option linter.all false
set_option maxRecDepth 100000
set_option maxHeartbeats 2000000
namespace RT
open PySem PySem.Spec PyProof.Rows L2
variable {X : Cx} {L : Vl} {Wx : WX} {C : EK → Addr} {m m' : Md} {e a : Expr} {es : List Expr} {we wa wb : WE L.Θ} {pos p p2 : Pos}
/-! ### xs.count(y), xs.index(y) -/
def rCountD (K : PySem.W.Frag) : V → List V → Hp → VK → Prop := fun x xs H Q => ∃ (l : Addr) (y : V) (d : PyData) (ds : List PyData), x = V.ref l ∧ xs = [y] ∧ Dp K H (V.ref l) (.list ds) ∧ Dp K H y d ∧
  SeqAt.shaped (.list ds) = true ∧ SeqAt.shaped d = true ∧ Q (.int ((ds.countP fun z => PyData.eqv z d : Nat) : Int)) H
theorem mt_countD (hu : X.A.units + 65 < cLine) : MtR X "list.count" (rCountD X.K) := by
  intro pins s σ H x xs v us Q I rx rxs h
  obtain ⟨l, y, d, ds, rfl, rfl, hl, hy, sl, sd, q⟩ := h
  cases rx
  obtain ⟨uy, rfl, ry⟩ := rxs.one
  obtain ⟨bs, r1⟩ := Dp.reads I d y uy hy ry
  have lay : PyData.canLayAll0 ds = true := SeqAt.canLay_of_shaped sl
  have room : X.A.units + 1 + min (PyData.depthAll ds) d.depth < cLine := room_in_shaped sd hu
  cases hl with
  | lst hs ha =>
    obtain ⟨its, rv, ⟨⟨cls, dd, data, sls⟩, n, ho, hc, hdn, hdt⟩, hlen⟩ := I.list hs
    simp only at hc hdt
    subst hc hdt
    obtain ⟨as, h4⟩ := Dp.readsAll I ds _ its ha rv
    have hmap : its.map (SeqAt.readOf s.heap) = ds := SeqAt.readsAll_map ds its as lay h4
    refine call_meets PySem.F.slot_list_count ⟨_, ho, rfl⟩ PySem.F.entry_list_count (PySem.F.args_list_count_2 _ _)
      (SeqAt.list_countAt l its.toArray n dd sls uy fun u => PyData.eqv (SeqAt.readOf s.heap u) d) ⟨ho, SeqAt.items_eqAt (vs := its.toArray) (show ReadsAll s.heap its.toArray.toList ds as from h4) r1 lay (SeqAt.canLay_of_shaped sd) room, ?_⟩
    have ec : its.toArray.toList.countP (fun u => PyData.eqv (SeqAt.readOf s.heap u) d) = ds.countP fun z => PyData.eqv z d := by
      rw [← hmap, List.countP_map]
      rfl
    refine ⟨.int ((ds.countP fun z => PyData.eqv z d : Nat) : Int), H, I.tok _, ⟨s.toks, ?_⟩, q⟩
    rw [ec]
def wCount {Θ : Type} (wa wb : WE Θ) : WE Θ := fun ρ θ N Nx => wa ρ θ (fun x θ1 => ∃ ds, x = .py (.list ds) ∧ SeqAt.shaped (.list ds) = true ∧ wb ρ θ1 (fun y θ2 => ∃ d, y = .py d ∧ SeqAt.shaped d = true ∧ N (.py (.int ((ds.countP fun z => PyData.eqv z d : Nat) : Int))) θ2) Nx) Nx
theorem ex_count {apos : Pos} (hu : X.A.units + 65 < cLine) (ho : EX X L Wx m a wa) (he : EX X L Wx m' e wb) (hbase : attributeBase a "count" X.env (eval a X.env) = eval a X.env := by rfl)
    (hfew : ((backTo pos (starEach [e] X.env)).all (fun x => !x.1) && (backToKw pos (keywordEach [] X.env)).all (fun x => x.1.isSome) && decide ([e].length + ([] : List Keyword).length + (if ([] : List Keyword).isEmpty then 0 else 1) < 30)) = true := by rfl)
    (hline : (apos.endLine == pos.line) = true := by rfl) (hs : starEach [e] X.env = (false, eval e X.env) :: starEach [] X.env := by rfl) (hplain : (backTo pos (starEach [] X.env)).any (·.1) = false := by rfl) :
    EX X L Wx .s (.Call (.Attribute a "count" apos) [e] [] pos) (wCount wa wb) := by
  obtain ⟨t, a1, a2⟩ := ho
  obtain ⟨u, b1, b2⟩ := he
  refine ⟨_, pe_bm PySem.F.plainAttrs_list PySem.F.slot_list_count PySem.F.type_list_count (mt_countD hu) a1 (pa_cons b1 pa_nil hs) hbase hfew hline hs hplain, fun H0 M σ ρ θ Q N Nx rep j hw hN hX => ?_⟩
  refine a2 H0 M σ ρ θ _ _ Nx rep j hw (fun x θ1 M1 v1 e1 j1 r1 n1 => ?_) hX
  obtain ⟨ds, rfl, sl, n1⟩ := n1
  obtain ⟨l, xs, rfl, hx, rx⟩ := Re.list e1.ok r1.r
  refine ⟨.inl ⟨rfl, xs, .of hx⟩, ?_⟩
  refine b2 H0 M1 σ ρ θ1 _ _ Nx (rep.ext e1) j1 n1 (fun y θ2 M2 v2 e2 j2 r2 n2 => ?_) (fun k θ' M' e j n => hX k θ' M' (e1.trans e) j n)
  obtain ⟨d, rfl, sd, n2⟩ := n2
  exact ⟨l, v2, d, ds, rfl, rfl, (r1.ext e2).r.dp X.K e2.ok, r2.r.dp X.K e2.ok, sl, sd, hN (.py (.int ((ds.countP fun z => PyData.eqv z d : Nat) : Int))) θ2 M2 _ (e1.trans e2) j2 (Dr.int _) n2⟩
def wIndex {Θ : Type} (wa wb : WE Θ) : WE Θ := fun ρ θ N Nx => wa ρ θ (fun x θ1 => ∃ ds, x = .py (.list ds) ∧ SeqAt.shaped (.list ds) = true ∧ wb ρ θ1 (fun y θ2 => ∃ d, y = .py d ∧ SeqAt.shaped d = true ∧ ∃ (j : Nat) (z : PyData), ds[j]? = some z ∧ PyData.eqv z d = true ∧
  (∀ (m : Nat) (z' : PyData), m < j → ds[m]? = some z' → PyData.eqv z' d = false) ∧ N (.py (.int (j : Nat))) θ2) Nx) Nx
theorem ex_index {apos : Pos} (hu : X.A.units + 65 < cLine) (ho : EX X L Wx m a wa) (he : EX X L Wx m' e wb) (hbase : attributeBase a "index" X.env (eval a X.env) = eval a X.env := by rfl)
    (hfew : ((backTo pos (starEach [e] X.env)).all (fun x => !x.1) && (backToKw pos (keywordEach [] X.env)).all (fun x => x.1.isSome) && decide ([e].length + ([] : List Keyword).length + (if ([] : List Keyword).isEmpty then 0 else 1) < 30)) = true := by rfl)
    (hline : (apos.endLine == pos.line) = true := by rfl) (hs : starEach [e] X.env = (false, eval e X.env) :: starEach [] X.env := by rfl) (hplain : (backTo pos (starEach [] X.env)).any (·.1) = false := by rfl) :
    EX X L Wx .s (.Call (.Attribute a "index" apos) [e] [] pos) (wIndex wa wb) := by
  obtain ⟨t, a1, a2⟩ := ho
  obtain ⟨u, b1, b2⟩ := he
  refine ⟨_, pe_bm PySem.F.plainAttrs_list PySem.F.slot_list_index PySem.F.type_list_index (mt_indexD hu) a1 (pa_cons b1 pa_nil hs) hbase hfew hline hs hplain, fun H0 M σ ρ θ Q N Nx rep j hw hN hX => ?_⟩
  refine a2 H0 M σ ρ θ _ _ Nx rep j hw (fun x θ1 M1 v1 e1 j1 r1 n1 => ?_) hX
  obtain ⟨ds, rfl, sl, n1⟩ := n1
  obtain ⟨l, xs, rfl, hx, rx⟩ := Re.list e1.ok r1.r
  refine ⟨.inl ⟨rfl, xs, .of hx⟩, ?_⟩
  refine b2 H0 M1 σ ρ θ1 _ _ Nx (rep.ext e1) j1 n1 (fun y θ2 M2 v2 e2 j2 r2 n2 => ?_) (fun k θ' M' e j n => hX k θ' M' (e1.trans e) j n)
  obtain ⟨d, rfl, sd, i, z, h1, h2, h3, n2⟩ := n2
  exact ⟨l, v2, d, ds, i, z, rfl, rfl, (r1.ext e2).r.dp X.K e2.ok, r2.r.dp X.K e2.ok, sl, sd, h1, h2, h3, hN (.py (.int (i : Nat))) θ2 M2 _ (e1.trans e2) j2 (Dr.int _) n2⟩
/-! ### isinstance of a kept exception -/
def rIsX (K : PySem.W.Frag) : List V → Hp → VK → Prop := fun xs H Q => ∃ (y D : Addr) (c : V) (cv : Value) (b : Bool), xs = [.ref y, c] ∧ H y = some (ExT D y) ∧ ExcC K D ∧ (∀ u, RelV c u → u = cv) ∧ PySem.W.kitOne K (.ref D) cv = some b ∧ Q (.bl b) H
theorem call_isX : CallR X (.builtin "isinstance") (rIsX X.K) := by
  intro pins s σ H xs us Q I r h
  obtain ⟨y, D, c, cv, b, rfl, hH, EC, hcv, hk, q⟩ := h
  obtain ⟨u1, u2, rfl, r1, r2⟩ := vals2 r
  cases r1
  have ec := hcv _ r2
  subst ec
  obtain ⟨⟨oe, vs, at0, hz, hd⟩, _⟩ := I.hok y _ hH
  have J : PySem.W.InstAt s.heap y oe D none := by
    obtain ⟨oc, od, oda, osl⟩ := oe
    obtain ⟨z1, z2⟩ := hz
    dsimp only at z1 z2 hd
    subst z1 z2 hd
    exact ⟨at0, rfl, rfl, trivial⟩
  exact PySem.W.kia_one (PySem.W.handS_kitx_exc EC.hg EC.hk EC.hs EC.hd EC.ha EC.hn EC.ht EC.hm) I.kIn J hk (fun z => nomatch z) fun tk => ⟨.bl b, H, I.kept (t' := tk) fun _ _ z => z, rfl, q⟩
def wIsX {Θ : Type} (f : EK → Bool) (we : WE Θ) : WE Θ := fun ρ θ N Nx => we ρ θ (fun x θ' => ∃ k, x = .ex k ∧ N (.py (.bool (f k))) θ') Nx
theorem ex_isX {T : Str} {pT : Pos} {c : V} {cv : Value} {f : EK → Bool} (hT : PE X (.Name T pT) (tC c)) (hcv : ∀ u, RelV c u → u = cv) (hE : ∀ k, ExcC X.K (L.C k)) (hk : ∀ k, PySem.W.kitOne X.K (.ref (L.C k)) cv = some (f k)) (hm : X.mg "isinstance" = none) (hg : Gl X "isinstance") (he : EX X L Wx m e we)
    (h1 : starEach [e, .Name T pT] X.env = (false, eval e X.env) :: starEach [.Name T pT] X.env := by rfl) (h2 : starEach [.Name T pT] X.env = (false, eval (.Name T pT) X.env) :: starEach [] X.env := by rfl) (hpl : (backTo pos (starEach [.Name T pT] X.env)).any (·.1) = false := by rfl) :
    EX X L Wx .s (.Call (.Name "isinstance" p) [e, .Name T pT] [] pos) (wIsX f we) := by
  obtain ⟨t, a1, a2⟩ := he
  refine ⟨_, pe_callB call_isX hg hm (by decide +kernel) (pa_cons a1 (pa_cons hT pa_nil h2) h1) (by decide) (by decide) h1 hpl, fun H0 M σ ρ θ Q N Nx rep j hw hN hX => ?_⟩
  refine a2 H0 M σ ρ θ _ _ Nx rep j hw (fun x θ1 M1 v1 e1 j1 r1 n1 => ?_) hX
  obtain ⟨k, rfl, n⟩ := n1
  obtain ⟨y, rfl, hy⟩ : ∃ y, v1 = .ref y ∧ M1.G y = some (ExT (L.C k) y) := by
    rcases r1.r with h | ⟨_, _, _, _, e5, _⟩
    · exact h
    · cases e5
  exact ⟨y, L.C k, c, cv, f k, rfl, e1.ok.g _ _ hy, hE k, hcv, hk k, hN (.py (.bool (f k))) θ1 M1 _ e1 j1 (Dr.bl _) n⟩
/-! ### statements whose exceptions leave the slots as they were -/
structure Fit0 (L : Vl) (M0 : Wd) (G : Hp) (E : Ends) (N : EN L.Θ) : Prop where
  nx : ∀ M σ ρ θ, Ext M0 M → Same G M.G → Rep L.C M0.H M σ ρ → L.at θ M → N.nx ρ θ → E.nx σ M.H
  rt : ∀ M v d θ, Ext M0 M → L.at θ M → Rv L.C M.G v d → N.rt d θ → E.rt v M.H
theorem Fit0.up {M0 : Wd} {G G' : Hp} {E : Ends} {N : EN L.Θ} (f : Fit0 L M0 G E N) (s : Same G G') : Fit0 L M0 G' E N := ⟨fun M σ ρ θ e g => f.nx M σ ρ θ e (s.trans g), f.rt⟩
def RX0 (L : Vl) (Wx : WX) (t : TS) (w : WS L.Θ) : Prop := ∀ (M0 M : Wd) (σ : L2.St) (ρ : DS) (θ : L.Θ) (E : Ends) (N : EN L.Θ), Ext M0 M → Rep L.C M0.H M σ ρ → L.at θ M → w N ρ θ → Fit0 L M0 M.G E N →
  (∀ k θ' M', Ext M M' → L.at θ' M' → N.ex k θ' → Wx (.ref (L.C k)) none σ M'.H) → t E σ M.H
structure SX0 (X : Cx) (L : Vl) (Wx : WX) (st : Stmt) (w : WS L.Θ) : Prop where
  ex : ∃ t, PS X st t ∧ RX0 L Wx t w
structure SXs0 (X : Cx) (L : Vl) (Wx : WX) (st : List Stmt) (w : WS L.Θ) : Prop where
  ex : ∃ t, PSs X st t ∧ RX0 L Wx t w
variable {st : Stmt} {w u : WS L.Θ}
theorem sxs0_one (h1 : SX0 X L Wx st w) : SXs0 X L Wx [st] w := by
  obtain ⟨t, a1, a2⟩ := h1
  exact ⟨_, pss_one a1, a2⟩
theorem sx0_set (i : Nat) {x : Str} {pos' : Pos} (hN : X.N.Nodup) (he : EX X L Wx .s e we) (hi : X.N[i]? = some x := by rfl) (hx : Loc X.env.scope x := by first | exact Or.inl rfl | exact Or.inr rfl) (hs : swapsWith e (some (.Name x pos')) pos.line X.env = pure false := by rfl)
    (hf : X.fn x = true ∨ X.env.scope.names.lookup x = some .local := by first | exact .inl rfl | exact .inr rfl | assumption) : SX0 X L Wx (.Assign [.Name x pos'] e pos) (wSet i we) := by
  obtain ⟨t, a1, a2⟩ := he
  refine ⟨_, ps_set hN hi hx a1 hs hf, fun M0 M σ ρ θ E N e rep j hw f hX => ?_⟩
  exact a2 M0.H M σ ρ θ _ _ N.ex rep j hw (fun d θ' M' v e' j' r n => f.nx M' _ _ θ' (e.trans e') e'.g ((rep.ext e').set i r) j' n) (fun k θ' M' e' j' n => hX k θ' M' e' j' n)
theorem sx0_expr (he : EX X L Wx m e we) (hs : swapsWith e none pos.line X.env = pure false := by rfl) : SX0 X L Wx (.Expr e pos) (wDrop we) := by
  obtain ⟨t, a1, a2⟩ := he
  exact ⟨_, ps_expr a1 hs, fun M0 M σ ρ θ E N e rep j hw f hX => a2 M0.H M σ ρ θ _ _ N.ex rep j hw (fun d θ' M' v e' j' r n => f.nx M' σ ρ θ' (e.trans e') e'.g (rep.ext e') j' n) hX⟩
theorem sx0_if {c : Expr} {tc : WT L.Θ} {a b : List Stmt} (hc : TX X L Wx c tc) (ha : SXs0 X L Wx a w) (hb : SXs0 X L Wx b u) : SX0 X L Wx (.If c a b pos) (wIfS tc w u) := by
  obtain ⟨t, c1, c2⟩ := hc
  obtain ⟨ta, a1, a2⟩ := ha
  obtain ⟨tb, b1, b2⟩ := hb
  refine ⟨_, ps_if c1 a1 b1, fun M0 M σ ρ θ E N e rep j hw f hX => ?_⟩
  refine c2 M0.H M σ ρ θ _ _ N.ex rep j hw (fun k θ' M' e' j' n => ?_) hX
  cases k with
  | true => exact a2 M0 M' σ ρ θ' E N (e.trans e') (rep.ext e') j' n (f.up e'.g) (fun k θ'' M'' e'' j'' n'' => hX k θ'' M'' (e'.trans e'') j'' n'')
  | false => exact b2 M0 M' σ ρ θ' E N (e.trans e') (rep.ext e') j' n (f.up e'.g) (fun k θ'' M'' e'' j'' n'' => hX k θ'' M'' (e'.trans e'') j'' n'')
/-! ### try -/
def wTry {Θ : Type} (i j : Nat) (w : WS Θ) : WS Θ := fun N ρ θ => i < ρ.length ∧ w { N with ex := fun k θ' => N.nx (((ρ.set i (.is (.ex k))).set j (.is (.ex k))).set i .no) θ' } ρ θ
def tb0 (L : Vl) (w : WS L.Θ) (W : WX) : TS := fun D σ H => ∃ (M0 M : Wd) (ρ : DS) (θ : L.Θ) (N : EN L.Θ), M.H = H ∧ Ext M0 M ∧ Rep L.C M0.H M σ ρ ∧ L.at θ M ∧ w N ρ θ ∧ Fit0 L M0 M.G D N ∧
  (∀ k θ' M', Ext M M' → L.at θ' M' → N.ex k θ' → W (.ref (L.C k)) none σ M'.H)
theorem sx_try (i j : Nat) {x n kept : Str} {R : Addr} {body : List Stmt} {np pos' p1 p3 p4 : Pos} (hs : X.stack = X.env :: X.outer) (hf : X.env.frame = some X.env.locals) (hex : X.ex = []) (hN : X.N.Nodup) (hi : X.N[i]? = some n) (hl : X.env.kindOf n = some .local)
    (hj : X.N[j]? = some kept) (hij : i ≠ j) (hc : Names X x (.ref R)) (hm : ∀ k, PySem.W.exmOne X.K (.ref (L.C k)) (.ref R) = some true)
    (hb : ∀ (W : WX) (pn : List (Addr × Obj)) (xe : Value → Shared → Prop), Takes (X.tr pn xe) W → SXs0 (X.tr pn xe) L W body w)
    (hsu : ∀ (y : Addr) (pn : List (Addr × Obj)), PS (X.suite y pn) (.Assign [.Name kept p1] (.Name n p3) p4) (tAsg (tVar i) (gName j))) :
    SX X L Wx (.Try body [.ExceptHandler (some (.Name x np)) (some n) [.Assign [.Name kept p1] (.Name n p3) p4] pos'] [] [] pos) (wTry i j w) := by
  refine ⟨_, ps_try_keep (c := .ref R) (ts := fun _ => tAsg (tVar i) (gName j)) (tb := tb0 L w) hs hf hex hN hi hl hc (fun W pn xe tk => ?_) (fun y pn => pss_one (hsu y pn)), fun M0 M σ ρ θ E N e rep jj hw f => ?_⟩
  · obtain ⟨t, a1, a2⟩ := hb W pn xe tk
    refine ⟨fun pins s σ H D I h => a1.run pins s σ H D I ?_⟩
    obtain ⟨M0, M, ρ, θ, N, rfl, e, rep, jj, hw, f, hX⟩ := h
    exact a2 M0 M σ ρ θ D N e rep jj hw f hX
  · obtain ⟨hlen, hw⟩ := hw
    refine ⟨M0, M, ρ, θ, _, rfl, e, rep, jj, hw, ⟨f.nx, f.rt⟩, fun k θ' M' e' j' n' => ⟨hm k, fun y ny => ?_⟩⟩
    have hsl : i < σ.length := by rw [rep.len]; exact hlen
    refine ⟨.ref y, by rw [List.getElem?_set_self hsl], fun _ => ?_⟩
    have e2 := Ext0.add e'.ok (o := ExT (L.C k) y) ny
    have rv : Rv L.C (M'.add y (ExT (L.C k) y)).G (.ref y) (.ex k) := ⟨y, rfl, add_at⟩
    have rep2 := (((rep.ext (e'.trans e2.1)).set i rv).set j rv).forget i none
    exact f.nx (M'.add y (ExT (L.C k) y)) _ _ θ' (e.trans (e'.trans e2.1)) (e'.g.trans e2.1.g) rep2 (L.ext0 e2 j') n'
end RT
end
section
set_option Elab.async false
set_option linter.all false
set_option maxRecDepth 100000
set_option maxHeartbeats 2000000
/-! ### the head's facts, and one more check of one's own -/
namespace RT
open PySem PySem.Spec PyProof.Rows L2
def obsXG (n : Nat) (X : PySem.W.Frag → Bool) (fa : List He.Fa) (fn : List He.DefD) (g : Addr → Option Obj) : He.AlD × Bool := (He.obsDG n fa fn g, X (He.frG g (He.asD g n)))
def hookX (n : Nat) (X : PySem.W.Frag → Bool) (fa : List He.Fa) (fn : List He.DefD) : PySem.W.Hook where
  α := He.AlD × Bool
  obs := fun s => obsXG n X fa fn s.heap.get?
  val := fun _ => (He.valD fn, true)
  says := fun _ h => ∃ K : PySem.W.Frag, K.In h ∧ He.SaysD fa fn K ∧ X K = true
  of := fun _ s e => ⟨He.frG s.heap.get? (He.asD s.heap.get? n), He.frG_in, congrArg (fun z : He.AlD × Bool => z.1) e, congrArg (fun z : He.AlD × Bool => z.2) e⟩
  keeps := fun _ _ _ ⟨K, hK, c⟩ k => ⟨K, PySem.W.Frag.In.keeps hK k, c⟩
theorem obsXG_eq {n : Nat} {X : PySem.W.Frag → Bool} {fa : List He.Fa} {fn : List He.DefD} {g : Addr → Option Obj} {s : Shared} (h : ∀ a, g a = s.heap.get? a) : obsXG n X fa fn g = (hookX n X fa fn).obs s := by
  have e : g = s.heap.get? := funext h
  rw [e]
  rfl
def excR (K : PySem.W.Frag) : Addr := He.ga K "RangeError"
def excA (K : PySem.W.Frag) : EK → Addr
  | .set => He.ga K "BadSet"
  | .item => He.ga K "BadItem"
  | .number => He.ga K "BadNumber"
  | .text => He.ga K "BadText"
  | .none => He.ga K "NotFound"
def eks : List EK := [.set, .item, .number, .text, .none]
theorem eks_all (k : EK) : k ∈ eks := by cases k <;> decide
def excB (K : PySem.W.Frag) (D : Addr) : Bool :=
  decide (PySem.W.findIn K (.ref D) "__getattribute__" = some (some (.builtin "BaseException.__getattribute__"))) && (decide (PySem.W.findIn K (.ref D) "__getattr__" = some none) &&
  (decide (PySem.W.subIn K (.ref D) (.type "BaseException") = some true) && (decide (PySem.W.hasDictIn K D = true) && (decide (PySem.W.findIn K (.ref D) "__class__" = some (some (.builtin "object.__class__"))) &&
  (decide (PySem.W.specialIn K (.builtin "object.__class__") "__get__" = some (some (.builtin "getset_descriptor.__get__"))) && (decide (PySem.W.takesIn K (.builtin "object.__class__") = some true) && decide (PySem.W.mroIn K D (.type "object") = some true)))))))
theorem excB_ok {K : PySem.W.Frag} {D : Addr} (h : excB K D = true) : ExcC K D := by
  simp only [excB, Bool.and_eq_true, decide_eq_true_eq] at h
  obtain ⟨h1, h2, h3, h4, h5, h6, h7, h8⟩ := h
  exact ⟨h1, h2, h3, h4, h5, h6, h7, h8⟩
def excX (K : PySem.W.Frag) : Bool := eks.all fun k => decide (PySem.W.kitOne K (.ref (excA K k)) (.ref (excR K)) = some true) && (decide (PySem.W.kitOne K (.ref (excA K k)) (.type "ValueError") = some true) && (excB K (excA K k) &&
  (decide (PySem.W.exmOne K (.ref (excA K k)) (.ref (excR K)) = some true) && eks.all fun j => decide (PySem.W.kitOne K (.ref (excA K k)) (.ref (excA K j)) = some (decide (k = j))))))
theorem excX_ok {K : PySem.W.Frag} (h : excX K = true) : (∀ k, PySem.W.kitOne K (.ref (excA K k)) (.ref (excR K)) = some true) ∧ (∀ k, PySem.W.kitOne K (.ref (excA K k)) (.type "ValueError") = some true) ∧ (∀ k, ExcC K (excA K k)) ∧
    (∀ k, PySem.W.exmOne K (.ref (excA K k)) (.ref (excR K)) = some true) ∧ ∀ k j, PySem.W.kitOne K (.ref (excA K k)) (.ref (excA K j)) = some (decide (k = j)) := by
  have q := fun k => List.all_eq_true.mp h k (eks_all k)
  simp only [Bool.and_eq_true, decide_eq_true_eq, List.all_eq_true] at q
  exact ⟨fun k => (q k).1, fun k => (q k).2.1, fun k => excB_ok (q k).2.2.1, fun k => (q k).2.2.2.1, fun k j => (q k).2.2.2.2 j (eks_all j)⟩
end RT
end
section
set_option Elab.async false
set_option linter.all false
set_option maxRecDepth 100000
set_option maxHeartbeats 8000000
namespace RT
open PySem PySem.Spec PyProof.Rows L2
local macro_rules | `(tactic| simp_arith [$ts,*] $[$loc]?) => `(tactic| simp only [$ts,*, wVar, wOwn, wC, wOp, wT, wChain, wAndT, wOrT, wNotT, wAnd, wOr, wNot, wIf, wNil, wCons, wDisp, wCall, wCall0, wNoPart, wPart, wSl, wRevL, wBlt, wItL, wItT, wItS, wRg1, wRg2, wEnum, wZip, wLR, wLR2, wYes, wM1, wFmt, wJoined, wIsi, wNeg, wNewD, wOwnCat, wPar2, wNext, wSeq, wNever, wSet, wNew, wAug, wExtend, wAppend, wPut, wFrz, wRet, wRetOwn, wRetN, wDrop, wIfS, wgName, wgTup, wUnp, wRaise, bodyEN, wLc, wFor, wSortSet, e_add_i, e_add_s, e_add_l, e_add_t, e_kadd_i, e_kadd_s, e_kadd_l, e_kadd_t, e_sub, e_kt, e_mul_i, e_mul_l, e_kmul_i, e_kmul_l, e_div, e_kdiv, e_mod, e_kmod, e_cmp, e_eq, e_ne, e_keq, e_is_n, e_is_b, e_isn_n, e_isn_b, e_non_n, e_non_l, e_non_t, e_non_i, e_non_s, e_non_b, e_non_x, e_in_l, e_in_t, e_ni_l, e_ni_t, e_kin_l, e_kin_t, e_kin_s, e_ix_l, e_ix_t, e_ix_s, e_kix_l, e_kix_t, e_kix_s, e_sl_l, e_sl_t, e_sl_s, e_len_l, e_len_t, e_len_s, e_klen_l, e_klen_t, e_klen_s, e_kany, e_list_l, e_list_t, e_tup_l, e_tup_t, e_sum, e_max, e_max2, e_min, e_kne, e_kne2, e_all, e_str, e_kstr, e_int, e_kint, e_split, e_ksplit, e_part, e_kpart, e_join, e_kjoin, e_pys0, e_pys1, e_sa0, e_sa1, e_wipe0, e_wipe1, e_js0, e_js1, e_ty_i, e_ty_b, e_ty_n, e_ty_s, e_ty_l, e_ty_t, e_isi_ii, e_isi_ib, e_isi_in, e_isi_is, e_isi_il, e_isi_it, e_isi_bi, e_isi_bb, e_isi_bn, e_isi_bs, e_isi_bl, e_isi_bt, e_isi_li, e_isi_lb, e_isi_ln, e_isi_ls, e_isi_ll, e_isi_lt, e_isi_ti, e_isi_tb, e_isi_tn, e_isi_ts, e_isi_tl, e_isi_tt, e_isi_si, e_isi_sb, e_isi_sn, e_isi_ss, e_isi_sl, e_isi_st, e_up, e_st0, e_st1, e_st2, exists_eq_left, exists_eq_left', exists_eq_right, exists_eq_right', exists_eq', exists_eq, true_and, and_true, and_self, false_and, and_false, exists_and_left, exists_and_right, exists_const, Option.some.injEq, Option.map_some, Option.map_none, Sl.is.injEq, Sl.own.injEq, D.py.injEq, D.ex.injEq, D.rf.injEq, PyData.int.injEq, PyData.bool.injEq, PyData.str.injEq, PyData.list.injEq, PyData.tuple.injEq, List.cons.injEq, if_true, if_false, eq_self, Bool.false_eq_true, Bool.true_eq_false, Bool.not_true, Bool.not_false, Bool.not_not, List.getElem?_cons_zero, List.getElem?_cons_succ, List.set_cons_zero, List.set_cons_succ, List.length_cons, List.length_nil, List.cons_append, List.nil_append, reduceCtorEq, List.replicate_zero, List.replicate_succ, Nat.reduceAdd, Nat.reduceSub, decide_true, decide_false, intsOf_map', blsOf_map', strsOf_map', map_int_inj, map_str_inj, map_bool_inj, map_itD_inj, itD_iff, sh_int, sh_bool, sh_none, sh_itD, sh_nil, sh_ints, sh_its, eqv_int, eqv_bool, eqv_str, eqv_itD, eqv_ints, eqv_strs, eqv_its, eqv_nil, Nat.zero_le, and_assoc] $[$loc]?)
local macro_rules | `(tactic| simp_arith! [$ts,*] $[$loc]?) => `(tactic| simp only [$ts,*, wCount, wIndex, wIsX, wTry, wVar, wOwn, wC, wOp, wT, wChain, wAndT, wOrT, wNotT, wAnd, wOr, wNot, wIf, wNil, wCons, wDisp, wCall, wCall0, wNoPart, wPart, wSl, wRevL, wBlt, wItL, wItT, wItS, wRg1, wRg2, wEnum, wZip, wLR, wLR2, wYes, wM1, wFmt, wJoined, wIsi, wNeg, wNewD, wOwnCat, wPar2, wNext, wSeq, wNever, wSet, wNew, wAug, wExtend, wAppend, wPut, wFrz, wRet, wRetOwn, wRetN, wDrop, wIfS, wgName, wgTup, wUnp, wRaise, bodyEN, wLc, wFor, wSortSet, e_add_i, e_add_s, e_add_l, e_add_t, e_kadd_i, e_kadd_s, e_kadd_l, e_kadd_t, e_sub, e_kt, e_mul_i, e_mul_l, e_kmul_i, e_kmul_l, e_div, e_kdiv, e_mod, e_kmod, e_cmp, e_eq, e_ne, e_keq, e_is_n, e_is_b, e_isn_n, e_isn_b, e_non_n, e_non_l, e_non_t, e_non_i, e_non_s, e_non_b, e_non_x, e_in_l, e_in_t, e_ni_l, e_ni_t, e_kin_l, e_kin_t, e_kin_s, e_ix_l, e_ix_t, e_ix_s, e_kix_l, e_kix_t, e_kix_s, e_sl_l, e_sl_t, e_sl_s, e_len_l, e_len_t, e_len_s, e_klen_l, e_klen_t, e_klen_s, e_kany, e_list_l, e_list_t, e_tup_l, e_tup_t, e_sum, e_max, e_max2, e_min, e_kne, e_kne2, e_all, e_str, e_kstr, e_int, e_kint, e_split, e_ksplit, e_part, e_kpart, e_join, e_kjoin, e_pys0, e_pys1, e_sa0, e_sa1, e_wipe0, e_wipe1, e_js0, e_js1, e_ty_i, e_ty_b, e_ty_n, e_ty_s, e_ty_l, e_ty_t, e_isi_ii, e_isi_ib, e_isi_in, e_isi_is, e_isi_il, e_isi_it, e_isi_bi, e_isi_bb, e_isi_bn, e_isi_bs, e_isi_bl, e_isi_bt, e_isi_li, e_isi_lb, e_isi_ln, e_isi_ls, e_isi_ll, e_isi_lt, e_isi_ti, e_isi_tb, e_isi_tn, e_isi_ts, e_isi_tl, e_isi_tt, e_isi_si, e_isi_sb, e_isi_sn, e_isi_ss, e_isi_sl, e_isi_st, e_up, e_st0, e_st1, e_st2, exists_eq_left, exists_eq_left', exists_eq_right, exists_eq_right', exists_eq', exists_eq, true_and, and_true, and_self, false_and, and_false, exists_and_left, exists_and_right, exists_const, Option.some.injEq, Option.map_some, Option.map_none, Sl.is.injEq, Sl.own.injEq, D.py.injEq, D.ex.injEq, D.rf.injEq, PyData.int.injEq, PyData.bool.injEq, PyData.str.injEq, PyData.list.injEq, PyData.tuple.injEq, List.cons.injEq, if_true, if_false, eq_self, Bool.false_eq_true, Bool.true_eq_false, Bool.not_true, Bool.not_false, Bool.not_not, List.getElem?_cons_zero, List.getElem?_cons_succ, List.set_cons_zero, List.set_cons_succ, List.length_cons, List.length_nil, List.cons_append, List.nil_append, reduceCtorEq, List.replicate_zero, List.replicate_succ, Nat.reduceAdd, Nat.reduceSub, decide_true, decide_false, intsOf_map', blsOf_map', strsOf_map', map_int_inj, map_str_inj, map_bool_inj, map_itD_inj, itD_iff, sh_int, sh_bool, sh_none, sh_itD, sh_nil, sh_ints, sh_its, eqv_int, eqv_bool, eqv_str, eqv_itD, eqv_ints, eqv_strs, eqv_its, eqv_nil, Nat.zero_le, and_assoc] $[$loc]?)
def exName : EK → Str
  | .set => "set"
  | .item => "item"
  | .number => "number"
  | .text => "text"
  | .none => "none"
theorem exName_ok (k : EK) : PyData.strOk (exName k) = true := by cases k <;> decide +kernel
def sp__law_error : Spec0 := fun ds N _ => ∃ k, ds = [.ex k] ∧ N (.py (.str (exName k)))
def w__law_error : WS Unit :=
  wSeq (wSet 1 (wDisp .list (wCons (wIsX (fun k => decide (k = .set)) (wVar 0)) (wCons (wIsX (fun k => decide (k = .item)) (wVar 0)) (wCons (wIsX (fun k => decide (k = .number)) (wVar 0)) (wNil)))))) (wSeq (wSet 1 (wOp fAdd kAdd (wVar 1) (wDisp .list (wCons (wIsX (fun k => decide (k = .text)) (wVar 0)) (wCons (wIsX (fun k => decide (k = .none)) (wVar 0)) (wNil)))))) (wSeq (wIfS (wOrT (wT (wOp fNe kEq (wCount (wVar 1) (wC (.bool true))) (wC (.int 1)))) (wOrT (wNotT (wT (wIsX (fun _ => true) (wVar 0)))) (wNotT (wT (wIsX (fun _ => true) (wVar 0)))))) (wRet (wC (.str "odd"))) (wNext)) (wRet (wOp fIx kIx (wDisp .list (wCons (wC (.str "set")) (wCons (wC (.str "item")) (wCons (wC (.str "number")) (wCons (wC (.str "text")) (wCons (wC (.str "none")) (wNil))))))) (wIndex (wVar 1) (wC (.bool true)))))))
theorem law_error : ∀ ds θ N Nx, sp__law_error.up ds θ N Nx → w__law_error (bodyEN N Nx) (startD 2 ds) θ := by
  rintro ds θ N Nx ⟨k, rfl, n⟩
  have l3 : (3 ≤ sizeLine) = True := eq_true (by decide)
  have l2 : (2 ≤ sizeLine) = True := eq_true (by decide)
  have l5 : (5 ≤ sizeLine) = True := eq_true (by decide)
  have l32 : (3 + 2 ≤ sizeLine) = True := eq_true (by decide)
  have shb : ∀ bs : List Bool, SeqAt.shaped (.list (bs.map PyData.bool)) = true := fun bs => (shp_map fun b _ => shp_bool b).sh
  have sh5 : ∀ a b c d e : Bool, SeqAt.shaped (.list [.bool a, .bool b, .bool c, .bool d, .bool e]) = true := fun a b c d e => shb [a, b, c, d, e]
  have cnt : ∀ a b c d e : Bool, [PyData.bool a, .bool b, .bool c, .bool d, .bool e].countP (fun z => PyData.eqv z (.bool true)) = [a, b, c, d, e].countP id := fun a b c d e => by
    cases a <;> cases b <;> cases c <;> cases d <;> cases e <;> simp
  simp_arith! [w__law_error, l3, l2, l32, l5, sh5, cnt]
  have low : ∀ (ds : List PyData) (j : Nat), (∀ m, m < j → ds[m]? = some (.bool false)) → ∀ (m : Nat) (z' : PyData), m < j → ds[m]? = some z' → PyData.eqv z' (.bool true) = false := fun ds j h m z' hm e => by
    rw [h m hm] at e
    cases e
    rfl
  cases k
  · exact ⟨0, .bool true, rfl, rfl, low _ 0 (fun m h => absurd h (Nat.not_lt_zero m)), _, rfl, n⟩
  · exact ⟨1, .bool true, rfl, rfl, low _ 1 (fun m h => by obtain rfl : m = 0 := by omega
                                                           rfl), _, rfl, n⟩
  · exact ⟨2, .bool true, rfl, rfl, low _ 2 (fun m h => by rcases (by omega : m = 0 ∨ m = 1) with rfl | rfl <;> rfl), _, rfl, n⟩
  · exact ⟨3, .bool true, rfl, rfl, low _ 3 (fun m h => by rcases (by omega : m = 0 ∨ m = 1 ∨ m = 2) with rfl | rfl | rfl <;> rfl), _, rfl, n⟩
  · exact ⟨4, .bool true, rfl, rfl, low _ 4 (fun m h => by rcases (by omega : m = 0 ∨ m = 1 ∨ m = 2 ∨ m = 3) with rfl | rfl | rfl | rfl <;> rfl), _, rfl, n⟩
/-! ### items within a set, as the laws say it -/
def sp__law_inside : Spec0 := fun ds N _ => ∃ ns : List Int, ds = [.py (.list (ns.map .int))] ∧ ns.length ≤ 1000 ∧ N (.py (.list ((insideOf ns).map itD)))
def w__law_inside : WS Unit :=
  wRet (wLc (wItL (wCall0 sp__law_items wNil)) (wgName 1) (wT (wOp fEq kEq (wLc (wItL (wCall0 sp__law_numbers (wCons (wVar 1) (wNil)))) (wgName 2) (wT (wOp fNi kIn (wVar 2) (wVar 0))) (wVar 2) [2]) (wDisp .list (wNil)))) (wVar 1) [1])
theorem none_all (l : List Int) (p : Int → Bool) : (l.filter fun k => !p k).isEmpty = l.all p := by
  induction l with
  | nil => rfl
  | cons x l ih =>
    rw [List.all_cons]
    cases h : p x
    · rw [List.filter_cons_of_pos (by simp [h])]
      rfl
    · rw [List.filter_cons_of_neg (by simp [h]), ih]
      rfl
theorem law_inside : ∀ ds θ N Nx, sp__law_inside.up ds θ N Nx → w__law_inside (bodyEN N Nx) (startD 3 ds) θ := by
  rintro ds θ N Nx ⟨ns, rfl, hl, n⟩
  simp_arith [w__law_inside, sp__law_items]
  refine lcGo_fm2 itD (fun q => (numbersOf q).all fun k => decide (k ∈ ns)) itD _ (fun q hq T F t => ?_) (by decide +kernel) n
  have ok : itemOk q = true := item_mem.mpr hq
  simp_arith [sp__law_numbers]
  refine ⟨q, rfl, rfl, rfl, ok, ?_⟩
  refine lcGo_fm2 PyData.int (fun k => !decide (k ∈ ns)) PyData.int _ (fun k hk T' F' t' => ?_) (le_line (by have := (rg_items q hq).2.2; omega)) ?_
  · simp_arith [any_ints]
    exact t'
  · simp_arith [List.isEmpty_map, none_all]
    exact t
end RT
end
section
set_option Elab.async false
set_option linter.all false
set_option maxRecDepth 100000
set_option maxHeartbeats 2000000
namespace RT
open PySem PySem.Spec PyProof.Rows L2
/-! ### a dict whose keys are tuples of ints, values ints -/
inductive MS where
  | pre | on (d : Addr) (m : List (List Int × Int))
def keyM (ns : List Int) : List L2.Key := ns.map Sum.inl
def kvM (m : List (List Int × Int)) : List (List L2.Key × V) := m.map fun p => (keyM p.1, .int p.2)
def MemoJ : MS → Hp → Hp → Prop
  | .pre, _, Z => ∀ b, Z b = none
  | .on d m, _, Z => Z d = some (.dT (kvM m))
theorem MemoJ.mono : ∀ {θ : MS} {G G' Z : Hp}, Same G G' → MemoJ θ G Z → MemoJ θ G' Z
  | .pre, _, _, _, _, h => h
  | .on _ _, _, _, _, _, h => h
abbrev VM (C : EK → Addr) : Vl := ⟨C, MS, MemoJ, MemoJ.mono⟩
def getM (m : List (List Int × Int)) (ns : List Int) : Option Int := (m.find? fun p => decide (p.1 = ns)).map (·.2)
def putM (m : List (List Int × Int)) (ns : List Int) (v : Int) : List (List Int × Int) := if (m.any fun p => decide (p.1 = ns)) = true then m.map (fun p => if p.1 = ns then (p.1, v) else p) else m ++ [(ns, v)]
theorem keyM_inj {a b : List Int} : keyM a = keyM b ↔ a = b := List.map_inj_right fun x y h => Sum.inl.inj h
theorem keyM_kV (ns : List Int) : (keyM ns).map kV = ns.map V.int := by
  unfold keyM
  rw [List.map_map]
  rfl
theorem valV_kvM (ns : List Int) : ∀ m : List (List Int × Int), valV (kvM m) (keyM ns) = (getM m ns).map V.int
  | [] => rfl
  | p :: m => by
    have ih := valV_kvM ns m
    by_cases h : p.1 = ns
    · have e : valV (kvM (p :: m)) (keyM ns) = some (.int p.2) := valV_pos (keyM_inj.mpr h)
      rw [e]
      simp [getM, List.find?_cons, h]
    · have e : valV (kvM (p :: m)) (keyM ns) = valV (kvM m) (keyM ns) := valV_neg (fun q => h (keyM_inj.mp q))
      rw [e, ih]
      simp [getM, List.find?_cons, h]
theorem putK_kvM (m : List (List Int × Int)) (ns : List Int) (v : Int) : putK (kvM m) (keyM ns) (.int v) = kvM (putM m ns v) := by
  have e : ((kvM m).any fun kv => decide (kv.1 = keyM ns)) = m.any fun p => decide (p.1 = ns) := by
    unfold kvM
    rw [List.any_map]
    refine congrArg (fun f => m.any f) (funext fun p => ?_)
    exact decide_eq_decide.mpr keyM_inj
  unfold putK putM
  rw [e]
  split
  · unfold kvM
    rw [List.map_map, List.map_map]
    refine List.map_congr_left fun p _ => ?_
    simp only [Function.comp]
    by_cases h : p.1 = ns
    · rw [if_pos (keyM_inj.mpr h), if_pos h]
    · rw [if_neg (fun q => h (keyM_inj.mp q)), if_neg h]
  · unfold kvM
    rw [List.map_append]
    rfl
variable {X : Cx} {C : EK → Addr} {Wx : WX} {m m' m'' : Md} {a b e i : Expr} {wa wb we : WE MS} {pos pos' : Pos}
def wDNew : WE MS := fun _ θ N _ => θ = .pre ∧ ∀ d, N (.rf d) (.on d [])
theorem ex_dnew : EX X (VM C) Wx .s (.Dict [] [] pos) wDNew := by
  refine ⟨_, pe_dnewT, fun H0 M σ ρ θ Q N Nx rep j hw hN hX => ?_⟩
  obtain ⟨rfl, n⟩ := hw
  intro p np
  exact hN (.rf p) (.on p []) (M.zput p (.dT [])) _ (ext_znew rep.ok np) upd_same rfl (n p)
/-- the tuple of ints that stands for a key -/
theorem key_at {M : Wd} {v : V} {ns : List Int} (ok : M.Ok) (r : Re C .r M v (.py (.tuple (ns.map .int)))) : ∃ q, v = .ref q ∧ M.H q = some (.tup ((keyM ns).map kV)) := by
  obtain ⟨q, xs, rfl, h, dr⟩ := Re.tuple ok r
  rw [dr.ints] at h
  exact ⟨q, rfl, by rw [keyM_kV]; exact h⟩
theorem rf_at {M : Wd} {v : V} {d : Addr} (r : Re C .r M v (.rf d)) : v = .ref d := by
  rcases r with h | ⟨_, _, _, _, e5, _⟩
  · exact h
  · cases e5
def wDGet (wd wi : WE MS) : WE MS := fun ρ θ N Nx => wd ρ θ (fun x θ1 => wi ρ θ1 (fun y θ2 => ∃ d mm ns v, x = .rf d ∧ y = .py (.tuple (ns.map .int)) ∧ θ2 = .on d mm ∧ getM mm ns = some v ∧ N (.py (.int v)) θ2) Nx) Nx
theorem ex_dget (hu : X.A.units + 65 < cLine) (ha : EX X (VM C) Wx m a wa) (hb : EX X (VM C) Wx m' b wb) (hs : NoSl b := by exact fun _ _ => rfl) : EX X (VM C) Wx .s (.Subscript a b pos) (wDGet wa wb) := by
  obtain ⟨t, a1, a2⟩ := ha
  obtain ⟨u, b1, b2⟩ := hb
  refine ⟨_, pe_dget (by omega) a1 b1 hs, fun H0 M σ ρ θ Q N Nx rep j hw hN hX => ?_⟩
  refine a2 H0 M σ ρ θ _ _ Nx rep j hw (fun x θ1 M1 v1 e1 j1 r1 n1 => ?_) hX
  refine b2 H0 M1 σ ρ θ1 _ _ Nx (rep.ext e1) j1 n1 (fun y θ2 M2 v2 e2 j2 r2 n2 => ?_) (fun k θ' M' e j n => hX k θ' M' (e1.trans e) j n)
  obtain ⟨d, mm, ns, v, rfl, rfl, rfl, hg, n⟩ := n2
  obtain ⟨q, rfl, hq⟩ := key_at e2.ok r2.r
  have hd : M2.H d = some (.dT (kvM mm)) := e2.ok.z _ _ j2
  have g := DGet.t hd hq
  rw [valV_kvM, hg] at g
  exact ⟨d, .int v, rf_at (r1.ext e2).r, g, hN (.py (.int v)) (.on d mm) M2 _ (e1.trans e2) j2 (Dr.int _) n⟩
def wDPut (wd wi we : WE MS) : WS MS := fun N ρ θ => we ρ θ (fun z θ1 => wd ρ θ1 (fun x θ2 => wi ρ θ2 (fun y θ3 => ∃ v d mm ns, z = .py (.int v) ∧ x = .rf d ∧ y = .py (.tuple (ns.map .int)) ∧ θ3 = .on d mm ∧ mm.length < sizeLine ∧ N.nx ρ (.on d (putM mm ns v))) N.ex) N.ex) N.ex
theorem sx_dput (hu : X.A.units + 65 < cLine) (ha : EX X (VM C) Wx m a wa) (hb : EX X (VM C) Wx m' b wb) (he : EX X (VM C) Wx m'' e we) (hs : swapsWith e (some (.Subscript a b pos')) pos.line X.env = pure false := by rfl) : SX X (VM C) Wx (.Assign [.Subscript a b pos'] e pos) (wDPut wa wb we) := by
  obtain ⟨t, a1, a2⟩ := ha
  obtain ⟨u, b1, b2⟩ := hb
  obtain ⟨s, c1, c2⟩ := he
  refine ⟨_, ps_dput (by omega) a1 b1 c1 hs, fun M0 M σ ρ θ E N e rep j hw f => ?_⟩
  refine c2 M0.H M σ ρ θ _ _ N.ex rep j hw (fun z θ1 M1 v1 e1 j1 r1 n1 => ?_) (fun k θ' M' e' j' n => f.ex M' σ k θ' (e.trans e') j' n)
  refine a2 M0.H M1 σ ρ θ1 _ _ N.ex (rep.ext e1) j1 n1 (fun x θ2 M2 v2 e2 j2 r2 n2 => ?_) (fun k θ' M' e' j' n => f.ex M' σ k θ' (e.trans (e1.trans e')) j' n)
  refine b2 M0.H M2 σ ρ θ2 _ _ N.ex ((rep.ext e1).ext e2) j2 n2 (fun y θ3 M3 v3 e3 j3 r3 n3 => ?_) (fun k θ' M' e' j' n => f.ex M' σ k θ' (e.trans (e1.trans (e2.trans e'))) j' n)
  obtain ⟨v, d, mm, ns, rfl, rfl, rfl, rfl, hl, n⟩ := n3
  obtain ⟨q, rfl, hq⟩ := key_at e3.ok r3.r
  have hd : M3.H d = some (.dT (kvM mm)) := e3.ok.z _ _ j3
  have ev : v1 = .int v := ((r1.ext e2).ext e3).r.int
  subst ev
  have e123 := e1.trans (e2.trans e3)
  have e4 := ext_zset (o := .dT (kvM (putM mm ns v))) e3.ok j3
  have lk : (kvM mm).length < sizeLine := by
    unfold kvM
    rw [List.length_map]
    exact hl
  refine ⟨d, _, rf_at (r2.ext e3).r, DPut.t hd hq lk, ?_⟩
  rw [putK_kvM]
  exact f.nx (M3.zput d (.dT (kvM (putM mm ns v)))) σ ρ (.on d (putM mm ns v)) (e.trans (e123.trans e4)) (e123.g.trans e4.g) ((rep.ext e123).ext e4) upd_same n
def wDNi (wi wd : WE MS) : WE MS := fun ρ θ N Nx => wi ρ θ (fun y θ1 => wd ρ θ1 (fun x θ2 => ∃ d mm ns, y = .py (.tuple (ns.map .int)) ∧ x = .rf d ∧ θ2 = .on d mm ∧ N (.py (.bool (!(getM mm ns).isSome))) θ2) Nx) Nx
theorem tx_dni (hu : X.A.units + 65 < cLine) (ha : EX X (VM C) Wx m a wa) (hb : EX X (VM C) Wx m' b wb) (hm : behindInMarks .NotIn b = false := by first | exact nomark _ | rfl) : TX X (VM C) Wx (.Compare a [.NotIn] [b] pos) (wT (wDNi wa wb)) := by
  obtain ⟨t, a1, a2⟩ := ha
  obtain ⟨u, b1, b2⟩ := hb
  refine ⟨_, pt_cmp (pc_dnotin (by omega) a1 b1) hm, fun H0 M σ ρ θ Q N Nx rep j hw hN hX => ?_⟩
  refine a2 H0 M σ ρ θ _ _ Nx rep j hw (fun y θ1 M1 v1 e1 j1 r1 n1 => ?_) hX
  refine b2 H0 M1 σ ρ θ1 _ _ Nx (rep.ext e1) j1 n1 (fun x θ2 M2 v2 e2 j2 r2 n2 => ?_) (fun k θ' M' e j n => hX k θ' M' (e1.trans e) j n)
  obtain ⟨d, mm, ns, rfl, rfl, rfl, c, hc, n⟩ := n2
  obtain ⟨q, rfl, hq⟩ := key_at e2.ok (r1.ext e2).r
  have hd : M2.H d = some (.dT (kvM mm)) := e2.ok.z _ _ j2
  have g := DGet.t hd hq
  rw [valV_kvM] at g
  cases hc
  refine ⟨d, _, rf_at r2.r, g, _, rfl, ?_⟩
  have eo : ((getM mm ns).map V.int).isSome = (getM mm ns).isSome := by cases getM mm ns <;> rfl
  rw [eo]
  exact hN _ (.on d mm) M2 (e1.trans e2) j2 n
end RT
end
section
set_option Elab.async false
set_option linter.all false
set_option maxRecDepth 100000
set_option maxHeartbeats 8000000
namespace RT
open PySem PySem.Spec PyProof.Rows L2
/-! ### least_from -/
abbrev Ev := List (Itm × List Int × Int)
def evD (e : Itm × List Int × Int) : PyData := .tuple [itD e.1, tupD e.2.1, .int e.2.2]
def stepL (f : List Int → Int) (x : Int) (left : List Int) (best : Option Int) (e : Itm × List Int × Int) : Option Int :=
  if x ∈ e.2.1 then some (match best with
    | none => e.2.2 + f (left.filter fun k => !decide (k ∈ e.2.1))
    | some b => if e.2.2 + f (left.filter fun k => !decide (k ∈ e.2.1)) < b then e.2.2 + f (left.filter fun k => !decide (k ∈ e.2.1)) else b) else best
def leastF (ev : Ev) : Nat → List Int → Int
  | _, [] => 0
  | 0, _ :: _ => 0
  | n + 1, x :: r => (ev.foldl (stepL (leastF ev n) x (x :: r)) none).getD 0
def least (ev : Ev) (left : List Int) : Int := leastF ev left.length left
theorem rest_len {x : Int} {r : List Int} {own : List Int} (h : x ∈ own) : ((x :: r).filter fun k => !decide (k ∈ own)).length ≤ r.length := by
  rw [List.filter_cons_of_neg (by simp [h])]
  exact List.length_filter_le _ _
theorem foldl_congr' {α β : Type} (f g : β → α → β) : ∀ (l : List α) (b : β), (∀ x ∈ l, ∀ b, f b x = g b x) → l.foldl f b = l.foldl g b
  | [], _, _ => rfl
  | x :: l, b, h => by
    rw [List.foldl_cons, List.foldl_cons, h x List.mem_cons_self]
    exact foldl_congr' f g l _ fun y hy => h y (List.mem_cons_of_mem _ hy)
theorem leastF_fuel (ev : Ev) : ∀ (n m : Nat) (l : List Int), l.length ≤ n → l.length ≤ m → leastF ev n l = leastF ev m l
  | n, m, [], _, _ => by cases n <;> cases m <;> rfl
  | 0, _, _ :: _, h, _ => by simp at h
  | _ + 1, 0, _ :: _, _, h => by simp at h
  | n + 1, m + 1, x :: r, h1, h2 => by
    simp only [List.length_cons, Nat.add_le_add_iff_right] at h1 h2
    show (ev.foldl _ none).getD 0 = (ev.foldl _ none).getD 0
    rw [foldl_congr' (stepL (leastF ev n) x (x :: r)) (stepL (leastF ev m) x (x :: r)) ev none fun e _ b => by
      unfold stepL
      by_cases hx : x ∈ e.2.1
      · have := rest_len (r := r) hx
        rw [if_pos hx, if_pos hx, leastF_fuel ev n m _ (by omega) (by omega)]
      · rw [if_neg hx, if_neg hx]]
theorem least_cons (ev : Ev) (x : Int) (r : List Int) : least ev (x :: r) = (ev.foldl (stepL (least ev) x (x :: r)) none).getD 0 := by
  show (ev.foldl (stepL (leastF ev r.length) x (x :: r)) none).getD 0 = _
  rw [foldl_congr' (stepL (leastF ev r.length) x (x :: r)) (stepL (least ev) x (x :: r)) ev none fun e _ b => by
    unfold stepL
    by_cases hx : x ∈ e.2.1
    · have := rest_len (r := r) hx
      unfold least
      rw [if_pos hx, if_pos hx, leastF_fuel ev r.length _ _ this (Nat.le_refl _)]
    · rw [if_neg hx, if_neg hx]]
theorem step_some (f : List Int → Int) (x : Int) (left : List Int) : ∀ (ev : Ev) (b : Option Int), (b ≠ none ∨ ∃ e ∈ ev, x ∈ e.2.1) → ev.foldl (stepL f x left) b ≠ none
  | [], b, h => by
    rcases h with h | ⟨e, he, _⟩
    · exact h
    · cases he
  | e :: ev, b, h => by
    rw [List.foldl_cons]
    refine step_some f x left ev _ ?_
    by_cases hx : x ∈ e.2.1
    · refine .inl ?_
      unfold stepL
      rw [if_pos hx]
      simp
    · unfold stepL
      rw [if_neg hx]
      rcases h with h | ⟨e', he', hx'⟩
      · exact .inl h
      · rcases List.mem_cons.mp he' with rfl | he'
        · exact absurd hx' hx
        · exact .inr ⟨e', he', hx'⟩
/-! the dict -/
structure Good (f : List Int → Int) (m : List (List Int × Int)) : Prop where
  nd : (m.map (·.1)).Nodup
  ok : ∀ p ∈ m, p.1 ∈ subs ten ∧ p.2 = f p.1
theorem pigeon {α : Type} [DecidableEq α] : ∀ {l m : List α}, l.Nodup → (∀ x ∈ l, x ∈ m) → l.length ≤ m.length
  | [], _, _, _ => Nat.zero_le _
  | x :: l, m, nd, h => by
    obtain ⟨h1, h2⟩ := List.nodup_cons.mp nd
    have hx := h x List.mem_cons_self
    have ih := pigeon (l := l) (m := m.erase x) h2 fun y hy => (List.mem_erase_of_ne (fun e => h1 (by rw [← e]; exact hy))).mpr (h y (List.mem_cons_of_mem _ hy))
    rw [List.length_erase_of_mem hx] at ih
    have := List.length_pos_of_mem hx
    simp only [List.length_cons]
    omega
theorem subs_count : (subs ten).length = 1024 := by decide +kernel
theorem Good.len {f : List Int → Int} {m : List (List Int × Int)} (g : Good f m) : m.length < sizeLine := by
  have := pigeon g.nd (m := subs ten) fun x hx => by
    obtain ⟨p, hp, rfl⟩ := List.mem_map.mp hx
    exact (g.ok p hp).1
  rw [List.length_map, subs_count] at this
  have := le_line (n := 2000) (by omega)
  omega
theorem Good.nil {f : List Int → Int} : Good f [] := ⟨.nil, fun _ h => by cases h⟩
theorem Good.get {f : List Int → Int} {m : List (List Int × Int)} (g : Good f m) {ns : List Int} {v : Int} (h : getM m ns = some v) : v = f ns := by
  unfold getM at h
  cases hf : m.find? fun p => decide (p.1 = ns) with
  | none => rw [hf] at h; cases h
  | some p =>
    rw [hf] at h
    cases h
    have h1 := List.mem_of_find?_eq_some hf
    have h2 : p.1 = ns := of_decide_eq_true (List.find?_some (p := fun p : List Int × Int => decide (p.1 = ns)) hf)
    have e := (g.ok p h1).2
    rw [h2] at e
    exact e
theorem get_none {m : List (List Int × Int)} {ns : List Int} (h : getM m ns = none) : (m.any fun p => decide (p.1 = ns)) = false ∧ ns ∉ m.map (·.1) := by
  unfold getM at h
  have hf : m.find? (fun p => decide (p.1 = ns)) = none := by
    cases hf : m.find? fun p => decide (p.1 = ns) with
    | none => rfl
    | some p => rw [hf] at h; cases h
  have hn := List.find?_eq_none.mp hf
  refine ⟨?_, fun hm => ?_⟩
  · cases ha : m.any fun p => decide (p.1 = ns) with
    | false => rfl
    | true =>
      obtain ⟨p, hp, e⟩ := List.any_eq_true.mp ha
      exact absurd e (hn p hp)
  · obtain ⟨p, hp, rfl⟩ := List.mem_map.mp hm
    exact absurd (decide_eq_true rfl) (hn p hp)
theorem Good.put {f : List Int → Int} {m : List (List Int × Int)} (g : Good f m) {ns : List Int} (h : getM m ns = none) (hs : ns ∈ subs ten) : Good f (putM m ns (f ns)) ∧ getM (putM m ns (f ns)) ns = some (f ns) := by
  obtain ⟨h1, h2⟩ := get_none h
  unfold putM
  rw [if_neg (by rw [h1]; decide)]
  refine ⟨⟨?_, fun p hp => ?_⟩, ?_⟩
  · rw [List.map_append, List.map_cons, List.map_nil]
    exact List.nodup_append.mpr ⟨g.nd, List.pairwise_singleton _ _, fun x hx y hy e => h2 (by
      have ey := List.mem_singleton.mp hy
      rw [← (show x = ns from e.trans ey)]
      exact hx)⟩
  · rcases List.mem_append.mp hp with hp | hp
    · exact g.ok p hp
    · rw [List.mem_singleton.mp hp]
      exact ⟨hs, rfl⟩
  · have hf : m.find? (fun p => decide (p.1 = ns)) = none := by
      rw [List.find?_eq_none]
      intro p hp q
      exact h2 (List.mem_map.mpr ⟨p, hp, of_decide_eq_true q⟩)
    unfold getM
    rw [List.find?_append, hf]
    simp
end RT
end
section
set_option Elab.async false
set_option linter.all false
set_option maxRecDepth 100000
set_option maxHeartbeats 8000000
namespace RT
open PySem PySem.Spec PyProof.Rows L2
/-! ### shortest covers: mathematics (no program in sight) -/
theorem least_nil (ev : Ev) : least ev [] = 0 := rfl
theorem stepL_le (f : List Int → Int) (x : Int) (left : List Int) : ∀ (ev : Ev) (b : Option Int), (∀ v, b = some v → ∃ w, ev.foldl (stepL f x left) b = some w ∧ w ≤ v) ∧
    (∀ e ∈ ev, x ∈ e.2.1 → ∃ w, ev.foldl (stepL f x left) b = some w ∧ w ≤ e.2.2 + f (left.filter fun k => !decide (k ∈ e.2.1)))
  | [], b => ⟨fun v h => ⟨v, h, Int.le_refl _⟩, fun _ h => by cases h⟩
  | e :: ev, b => by
    obtain ⟨h1, h2⟩ := stepL_le f x left ev (stepL f x left b e)
    refine ⟨fun v hb => ?_, fun e' he' hx => ?_⟩
    · subst hb
      rw [List.foldl_cons]
      by_cases hx : x ∈ e.2.1
      · have es : stepL f x left (some v) e = some (if e.2.2 + f (left.filter fun k => !decide (k ∈ e.2.1)) < v then e.2.2 + f (left.filter fun k => !decide (k ∈ e.2.1)) else v) := by
          unfold stepL
          rw [if_pos hx]
        obtain ⟨w, hw, hle⟩ := h1 _ es
        refine ⟨w, hw, ?_⟩
        split at hle <;> omega
      · have es : stepL f x left (some v) e = some v := by
          unfold stepL
          rw [if_neg hx]
        exact h1 _ es
    · rw [List.foldl_cons]
      rcases List.mem_cons.mp he' with rfl | he'
      · have es : ∃ v, stepL f x left b e' = some v ∧ v ≤ e'.2.2 + f (left.filter fun k => !decide (k ∈ e'.2.1)) := by
          unfold stepL
          rw [if_pos hx]
          refine ⟨_, rfl, ?_⟩
          split
          · exact Int.le_refl _
          · split <;> omega
        obtain ⟨v, ev1, hv⟩ := es
        obtain ⟨w, hw, hle⟩ := h1 _ ev1
        exact ⟨w, hw, by omega⟩
      · exact h2 e' he' hx
theorem stepL_get (f : List Int → Int) (x : Int) (left : List Int) : ∀ (ev : Ev) (b : Option Int) (v : Int), ev.foldl (stepL f x left) b = some v →
    b = some v ∨ ∃ e ∈ ev, x ∈ e.2.1 ∧ v = e.2.2 + f (left.filter fun k => !decide (k ∈ e.2.1))
  | [], b, v, h => .inl h
  | e :: ev, b, v, h => by
    rw [List.foldl_cons] at h
    rcases stepL_get f x left ev _ v h with h | ⟨e', he, hx, hv⟩
    · unfold stepL at h
      by_cases hx : x ∈ e.2.1
      · rw [if_pos hx] at h
        have h' := Option.some.inj h
        split at h'
        · exact .inr ⟨e, List.mem_cons_self, hx, h'.symm⟩
        · split at h'
          · exact .inr ⟨e, List.mem_cons_self, hx, h'.symm⟩
          · exact .inl (by rw [h'])
      · rw [if_neg hx] at h
        exact .inl h
    · exact .inr ⟨e', List.mem_cons_of_mem _ he, hx, hv⟩
theorem least_step (ev : Ev) {x : Int} {r : List Int} {e : Itm × List Int × Int} (he : e ∈ ev) (hx : x ∈ e.2.1) : least ev (x :: r) ≤ e.2.2 + least ev ((x :: r).filter fun k => !decide (k ∈ e.2.1)) := by
  obtain ⟨w, hw, hle⟩ := (stepL_le (least ev) x (x :: r) ev none).2 e he hx
  rw [least_cons, hw]
  exact hle
theorem least_pick (ev : Ev) {x : Int} {r : List Int} (h : ∃ e ∈ ev, x ∈ e.2.1) : ∃ e ∈ ev, x ∈ e.2.1 ∧ least ev (x :: r) = e.2.2 + least ev ((x :: r).filter fun k => !decide (k ∈ e.2.1)) := by
  obtain ⟨e, he, hx⟩ := h
  obtain ⟨w, hw, _⟩ := (stepL_le (least ev) x (x :: r) ev none).2 e he hx
  rw [least_cons, hw]
  rcases stepL_get (least ev) x (x :: r) ev none w hw with h | h
  · cases h
  · exact h
/-! items -/
section
variable (nb : Itm → List Int) (cst : Itm → Int)
def wgh (its : List Itm) : Ev := its.map fun q => (q, nb q, cst q)
def sumI (f : Itm → Int) : List Itm → Int
  | [] => 0
  | q :: r => f q + sumI f r
def covs (t : List Itm) (left : List Int) : Prop := ∀ x ∈ left, ∃ q ∈ t, x ∈ nb q
theorem sumI_nonneg {f : Itm → Int} (h : ∀ q, 0 ≤ f q) : ∀ t, 0 ≤ sumI f t
  | [] => Int.le_refl _
  | q :: r => by
    have := sumI_nonneg h r
    have := h q
    show 0 ≤ f q + sumI f r
    omega
theorem sumI_perm {f : Itm → Int} {a b : List Itm} (h : a.Perm b) : sumI f a = sumI f b := by
  induction h with
  | nil => rfl
  | cons x _ ih => show f x + _ = f x + _; rw [ih]
  | swap x y l => show f y + (f x + sumI f l) = f x + (f y + sumI f l); omega
  | trans _ _ h1 h2 => rw [h1, h2]
theorem sumI_app {f : Itm → Int} : ∀ a b : List Itm, sumI f (a ++ b) = sumI f a + sumI f b
  | [], b => by show sumI f b = 0 + sumI f b; omega
  | x :: a, b => by show f x + sumI f (a ++ b) = f x + sumI f a + sumI f b; rw [sumI_app a b]; omega
theorem covs_perm {a b : List Itm} (h : a.Perm b) {left : List Int} (c : covs nb a left) : covs nb b left := fun x hx => by
  obtain ⟨q, hq, hn⟩ := c x hx
  exact ⟨q, h.mem_iff.mp hq, hn⟩
theorem covs_erase {t : List Itm} {q : Itm} (hq : q ∈ t) {left : List Int} (c : covs nb t left) : covs nb (t.erase q) (left.filter fun k => !decide (k ∈ nb q)) := fun x hx => by
  obtain ⟨h1, h2⟩ := List.mem_filter.mp hx
  obtain ⟨p, hp, hn⟩ := c x h1
  have ne : p ≠ q := fun e => by
    subst e
    simp [hn] at h2
  exact ⟨p, (List.mem_erase_of_ne ne).mpr hp, hn⟩
variable {nb cst}
theorem least_le (hc : ∀ q, 0 ≤ cst q) {its : List Itm} : ∀ (n : Nat) (left : List Int) (t : List Itm), left.length ≤ n → (∀ q ∈ t, q ∈ its) → covs nb t left → least (wgh nb cst its) left ≤ sumI cst t
  | _, [], t, _, _, _ => by rw [least_nil]; exact sumI_nonneg hc t
  | 0, _ :: _, _, h, _, _ => by simp at h
  | n + 1, x :: r, t, hl, ht, c => by
    obtain ⟨q, hq, hx⟩ := c x List.mem_cons_self
    have h1 := least_step (wgh nb cst its) (x := x) (r := r) (e := (q, nb q, cst q)) (List.mem_map.mpr ⟨q, ht q hq, rfl⟩) hx
    have h2 := rest_len (r := r) hx
    simp only [List.length_cons] at hl
    have ih := least_le hc n ((x :: r).filter fun k => !decide (k ∈ nb q)) (t.erase q) (by omega) (fun p hp => ht p (List.mem_of_mem_erase hp)) (covs_erase nb hq c)
    have e : sumI cst t = cst q + sumI cst (t.erase q) := sumI_perm (List.perm_cons_erase hq)
    simp only at h1
    omega
theorem least_get {its : List Itm} : ∀ (n : Nat) (left : List Int), left.length ≤ n → covs nb its left → ∃ t, (∀ q ∈ t, q ∈ its) ∧ covs nb t left ∧ sumI cst t = least (wgh nb cst its) left ∧ (left ≠ [] → t ≠ [])
  | _, [], _, _ => ⟨[], nofun, nofun, rfl, fun h => absurd rfl h⟩
  | 0, _ :: _, h, _ => by simp at h
  | n + 1, x :: r, hl, c => by
    obtain ⟨q0, hq0, hx0⟩ := c x List.mem_cons_self
    obtain ⟨e, he, hx, hv⟩ := least_pick (wgh nb cst its) (x := x) (r := r) ⟨(q0, nb q0, cst q0), List.mem_map.mpr ⟨q0, hq0, rfl⟩, hx0⟩
    obtain ⟨q, hq, rfl⟩ := List.mem_map.mp he
    simp only at hx hv
    have h2 := rest_len (r := r) hx
    simp only [List.length_cons] at hl
    obtain ⟨t, t1, t2, t3, _⟩ := least_get n ((x :: r).filter fun k => !decide (k ∈ nb q)) (by omega) (fun k hk => c k (List.mem_filter.mp hk).1)
    refine ⟨q :: t, fun p hp => ?_, fun k hk => ?_, ?_, fun _ h => by cases h⟩
    · rcases List.mem_cons.mp hp with rfl | hp
      · exact hq
      · exact t1 p hp
    · by_cases hkq : k ∈ nb q
      · exact ⟨q, List.mem_cons_self, hkq⟩
      · obtain ⟨p, hp, hn⟩ := t2 k (List.mem_filter.mpr ⟨hk, by simp [hkq]⟩)
        exact ⟨p, List.mem_cons_of_mem _ hp, hn⟩
    · show cst q + sumI cst t = _
      rw [t3, hv]
/-- an optimal cover of what is left: take out an item that has the first number -/
theorem least_erase (hc : ∀ q, 0 ≤ cst q) {its : List Itm} {x : Int} {r : List Int} {t : List Itm} {q : Itm} (ht : ∀ p ∈ t, p ∈ its) (c : covs nb t (x :: r)) (hs : sumI cst t = least (wgh nb cst its) (x :: r)) (hq : q ∈ t) (hx : x ∈ nb q) :
    cst q + least (wgh nb cst its) ((x :: r).filter fun k => !decide (k ∈ nb q)) = least (wgh nb cst its) (x :: r) ∧ covs nb (t.erase q) ((x :: r).filter fun k => !decide (k ∈ nb q)) ∧ sumI cst (t.erase q) = least (wgh nb cst its) ((x :: r).filter fun k => !decide (k ∈ nb q)) := by
  have h1 := least_step (wgh nb cst its) (x := x) (r := r) (e := (q, nb q, cst q)) (List.mem_map.mpr ⟨q, ht q hq, rfl⟩) hx
  simp only at h1
  have c2 := covs_erase nb hq c
  have h2 := least_le hc (its := its) _ _ (t.erase q) (Nat.le_refl _) (fun p hp => ht p (List.mem_of_mem_erase hp)) c2
  have e : sumI cst t = cst q + sumI cst (t.erase q) := sumI_perm (List.perm_cons_erase hq)
  refine ⟨by omega, c2, by omega⟩
/-- items without use do not stand in optimal covers -/
theorem least_need (hc : ∀ q, 0 < cst q) {its : List Itm} {left : List Int} {t : List Itm} {q : Itm} (ht : ∀ p ∈ t, p ∈ its) (hs : sumI cst t = least (wgh nb cst its) left) (hq : q ∈ t) : ¬ covs nb (t.erase q) left := fun c => by
  have h2 := least_le (fun q => Int.le_of_lt (hc q)) (its := its) _ left (t.erase q) (Nat.le_refl _) (fun p hp => ht p (List.mem_of_mem_erase hp)) c
  have e : sumI cst t = cst q + sumI cst (t.erase q) := sumI_perm (List.perm_cons_erase hq)
  have := hc q
  omega
/-- by more items no worse -/
theorem least_mono (hc : ∀ q, 0 ≤ cst q) {its jts : List Itm} {left : List Int} (h : ∀ q ∈ its, q ∈ jts) (c : covs nb its left) : least (wgh nb cst jts) left ≤ least (wgh nb cst its) left := by
  obtain ⟨t, t1, t2, t3, _⟩ := least_get (cst := cst) _ left (Nat.le_refl _) c
  rw [← t3]
  exact least_le hc _ left t (Nat.le_refl _) (fun q hq => h q (t1 q hq)) t2
end
section
variable (nb : Itm → List Int) (cst : Itm → Int)
def coversF (sU : List (List Itm) → List (List Itm)) (sI : List Itm → List Itm) (ev : Ev) : Nat → List Int → List (List Itm)
  | _, [] => [[]]
  | 0, _ :: _ => []
  | n + 1, x :: r => sU (ev.flatMap fun e => if x ∈ e.2.1 ∧ e.2.2 + least ev ((x :: r).filter fun k => !decide (k ∈ e.2.1)) = least ev (x :: r) then
      (coversF sU sI ev n ((x :: r).filter fun k => !decide (k ∈ e.2.1))).map fun t => sI (e.1 :: t) else [])
structure SrtX (sI : List Itm → List Itm) (S : List Itm → Prop) : Prop where
  s : ∀ l, S (sI l)
  p : ∀ l, (sI l).Perm l
  u : ∀ {a b : List Itm}, S a → S b → a.Perm b → a = b
  e : ∀ {a : List Itm} (q : Itm), S a → S (a.erase q)
  n : S []
variable {nb cst}
theorem sumI_zero {f : Itm → Int} (h : ∀ q, 0 < f q) {t : List Itm} (e : sumI f t = 0) : t = [] := by
  cases t with
  | nil => rfl
  | cons q r =>
    exfalso
    have h1 := h q
    have h2 := sumI_nonneg (fun q => Int.le_of_lt (h q)) r
    have e' : f q + sumI f r = 0 := e
    omega
theorem mem_coversF {sU : List (List Itm) → List (List Itm)} {sI : List Itm → List Itm} {S : List Itm → Prop} (O : SrtX sI S) (hU : ∀ l t, t ∈ sU l ↔ t ∈ l) (hc : ∀ q, 0 < cst q) {its : List Itm} : ∀ (n : Nat) (left : List Int) (t : List Itm), left.length ≤ n →
    (t ∈ coversF sU sI (wgh nb cst its) n left ↔ S t ∧ (∀ q ∈ t, q ∈ its) ∧ covs nb t left ∧ sumI cst t = least (wgh nb cst its) left)
  | n, [], t, _ => by
    have e : coversF sU sI (wgh nb cst its) n [] = [[]] := by cases n <;> rfl
    rw [e, List.mem_singleton, least_nil]
    constructor
    · rintro rfl
      exact ⟨O.n, nofun, nofun, rfl⟩
    · rintro ⟨_, _, _, h⟩
      exact sumI_zero hc h
  | 0, _ :: _, _, h => by simp at h
  | n + 1, x :: r, t, hl => by
    have hc0 : ∀ q, 0 ≤ cst q := fun q => Int.le_of_lt (hc q)
    simp only [List.length_cons] at hl
    show t ∈ sU _ ↔ _
    rw [hU, List.mem_flatMap]
    constructor
    · rintro ⟨e, he, h⟩
      obtain ⟨q, hq, rfl⟩ := List.mem_map.mp he
      simp only at h
      by_cases hx : x ∈ nb q ∧ cst q + least (wgh nb cst its) ((x :: r).filter fun k => !decide (k ∈ nb q)) = least (wgh nb cst its) (x :: r)
      · rw [if_pos hx] at h
        obtain ⟨u, hu, rfl⟩ := List.mem_map.mp h
        have h2 := rest_len (r := r) hx.1
        obtain ⟨_, u2, u3, u4⟩ := (mem_coversF O hU hc n _ u (by omega)).mp hu
        have pm := O.p (q :: u)
        refine ⟨O.s _, fun p hp => ?_, covs_perm nb pm.symm fun k hk => ?_, ?_⟩
        · rcases List.mem_cons.mp (pm.mem_iff.mp hp) with rfl | hp
          · exact hq
          · exact u2 p hp
        · by_cases hkq : k ∈ nb q
          · exact ⟨q, List.mem_cons_self, hkq⟩
          · obtain ⟨p, hp, hn⟩ := u3 k (List.mem_filter.mpr ⟨hk, by simp [hkq]⟩)
            exact ⟨p, List.mem_cons_of_mem _ hp, hn⟩
        · rw [sumI_perm pm]
          show cst q + sumI cst u = _
          rw [u4]
          exact hx.2
      · rw [if_neg hx] at h
        cases h
    · rintro ⟨h1, h2, h3, h4⟩
      obtain ⟨q, hq, hx⟩ := h3 x List.mem_cons_self
      obtain ⟨e1, e2, e3⟩ := least_erase hc0 h2 h3 h4 hq hx
      refine ⟨(q, nb q, cst q), List.mem_map.mpr ⟨q, h2 q hq, rfl⟩, ?_⟩
      simp only
      rw [if_pos ⟨hx, e1⟩]
      have hr := rest_len (r := r) hx
      refine List.mem_map.mpr ⟨t.erase q, (mem_coversF O hU hc n _ _ (by omega)).mpr ⟨O.e q h1, fun p hp => h2 p (List.mem_of_mem_erase hp), e2, e3⟩, ?_⟩
      exact O.u (O.s _) h1 ((O.p _).trans (List.perm_cons_erase hq).symm)
end
end RT
end
section
set_option Elab.async false
set_option linter.all false
set_option maxRecDepth 100000
set_option maxHeartbeats 8000000
namespace RT
open PySem PySem.Spec PyProof.Rows L2
local macro_rules | `(tactic| simp_arith! [$ts,*] $[$loc]?) => `(tactic| simp only [$ts,*, wCount, wIndex, wIsX, wTry, wVar, wOwn, wC, wOp, wT, wChain, wAndT, wOrT, wNotT, wAnd, wOr, wNot, wIf, wNil, wCons, wDisp, wCall, wCall0, wNoPart, wPart, wSl, wRevL, wBlt, wItL, wItT, wItS, wRg1, wRg2, wEnum, wZip, wLR, wLR2, wYes, wM1, wFmt, wJoined, wIsi, wNeg, wNewD, wOwnCat, wPar2, wNext, wSeq, wNever, wSet, wNew, wAug, wExtend, wAppend, wPut, wFrz, wRet, wRetOwn, wRetN, wDrop, wIfS, wgName, wgTup, wUnp, wRaise, bodyEN, wLc, wFor, wSortSet, e_add_i, e_add_s, e_add_l, e_add_t, e_kadd_i, e_kadd_s, e_kadd_l, e_kadd_t, e_sub, e_kt, e_mul_i, e_mul_l, e_kmul_i, e_kmul_l, e_div, e_kdiv, e_mod, e_kmod, e_cmp, e_eq, e_ne, e_keq, e_is_n, e_is_b, e_isn_n, e_isn_b, e_non_n, e_non_l, e_non_t, e_non_i, e_non_s, e_non_b, e_non_x, e_in_l, e_in_t, e_ni_l, e_ni_t, e_kin_l, e_kin_t, e_kin_s, e_ix_l, e_ix_t, e_ix_s, e_kix_l, e_kix_t, e_kix_s, e_sl_l, e_sl_t, e_sl_s, e_len_l, e_len_t, e_len_s, e_klen_l, e_klen_t, e_klen_s, e_kany, e_list_l, e_list_t, e_tup_l, e_tup_t, e_sum, e_max, e_max2, e_min, e_kne, e_kne2, e_all, e_str, e_kstr, e_int, e_kint, e_split, e_ksplit, e_part, e_kpart, e_join, e_kjoin, e_pys0, e_pys1, e_sa0, e_sa1, e_wipe0, e_wipe1, e_js0, e_js1, e_ty_i, e_ty_b, e_ty_n, e_ty_s, e_ty_l, e_ty_t, e_isi_ii, e_isi_ib, e_isi_in, e_isi_is, e_isi_il, e_isi_it, e_isi_bi, e_isi_bb, e_isi_bn, e_isi_bs, e_isi_bl, e_isi_bt, e_isi_li, e_isi_lb, e_isi_ln, e_isi_ls, e_isi_ll, e_isi_lt, e_isi_ti, e_isi_tb, e_isi_tn, e_isi_ts, e_isi_tl, e_isi_tt, e_isi_si, e_isi_sb, e_isi_sn, e_isi_ss, e_isi_sl, e_isi_st, e_up, e_st0, e_st1, e_st2, exists_eq_left, exists_eq_left', exists_eq_right, exists_eq_right', exists_eq', exists_eq, true_and, and_true, and_self, false_and, and_false, exists_and_left, exists_and_right, exists_const, Option.some.injEq, Option.map_some, Option.map_none, Sl.is.injEq, Sl.own.injEq, D.py.injEq, D.ex.injEq, D.rf.injEq, PyData.int.injEq, PyData.bool.injEq, PyData.str.injEq, PyData.list.injEq, PyData.tuple.injEq, List.cons.injEq, if_true, if_false, eq_self, Bool.false_eq_true, Bool.true_eq_false, Bool.not_true, Bool.not_false, Bool.not_not, List.getElem?_cons_zero, List.getElem?_cons_succ, List.set_cons_zero, List.set_cons_succ, List.length_cons, List.length_nil, List.cons_append, List.nil_append, reduceCtorEq, List.replicate_zero, List.replicate_succ, Nat.reduceAdd, Nat.reduceSub, decide_true, decide_false, intsOf_map', blsOf_map', strsOf_map', map_int_inj, map_str_inj, map_bool_inj, map_itD_inj, itD_iff, sh_int, sh_bool, sh_none, sh_itD, sh_nil, sh_ints, sh_its, eqv_int, eqv_bool, eqv_str, eqv_itD, eqv_ints, eqv_strs, eqv_its, eqv_nil, Nat.zero_le, and_assoc] $[$loc]?)
theorem Good.over {f : List Int → Int} {m : List (List Int × Int)} (g : Good f m) {ns : List Int} {v : Int} (h : getM m ns = some v) : putM m ns (f ns) = m ∧ getM m ns = some (f ns) := by
  have ev := g.get h
  refine ⟨?_, by rw [h, ev]⟩
  have ha : (m.any fun p => decide (p.1 = ns)) = true := by
    cases ha : m.any fun p => decide (p.1 = ns) with
    | true => rfl
    | false =>
      unfold getM at h
      have hf : m.find? (fun p => decide (p.1 = ns)) = none := List.find?_eq_none.mpr fun p hp e => by
        have := List.any_eq_false.mp ha p hp
        exact this e
      rw [hf] at h
      cases h
  unfold putM
  rw [if_pos ha]
  have : m.map (fun p => if p.1 = ns then (p.1, f ns) else p) = m.map id := List.map_congr_left fun p hp => by
    by_cases e : p.1 = ns
    · rw [if_pos e, id, ← e, ← (g.ok p hp).2]
    · rw [if_neg e]
      rfl
  rw [this, List.map_id]
def spm_least (n : Nat) : Spec MS := fun ds θ N _ => ∃ (left : List Int) (ev : Ev) (d : Addr) (m : List (List Int × Int)), ds = [.py (tupD left), .py (.list (ev.map evD)), .rf d] ∧ θ = .on d m ∧ left ∈ subs ten ∧ left.length ≤ n ∧
  (∀ x ∈ left, ∃ e ∈ ev, x ∈ e.2.1) ∧ Good (least ev) m ∧ ∀ m', Good (least ev) m' → N (.py (.int (least ev left))) (.on d m')
def prevM (s : Nat → Spec MS) : Nat → Spec MS
  | 0 => fun _ _ _ _ => False
  | n + 1 => s n
def w_least_from (sp : Spec MS) : WS MS :=
  wSeq (wIfS (wT (wOp fEq kEq (wVar 0) (wDisp .tuple (wNil)))) (wRet (wC (.int 0))) (wNext)) (wSeq (wIfS (wT (wDNi (wVar 0) (wVar 2))) (wSeq (wSet 3 (wC .none)) (wSeq (wFor (wItL (wVar 1)) (wgTup [4, 5, 6]) (wIfS (wT (wOp fIn kIn (wOp fIx kIx (wVar 0) (wC (.int 0))) (wVar 5))) (wSeq (wSet 7 (wBlt fTuple kAny (wCons (wLc (wItT (wVar 0)) (wgName 9) (wT (wOp fNi kIn (wVar 9) (wVar 5))) (wVar 9) [9]) (wNil)))) (wSeq (wSet 8 (wOp fAdd kAdd (wVar 6) (wCall sp (wCons (wVar 7) (wCons (wVar 1) (wCons (wVar 2) (wNil))))))) (wSet 3 (wIf (wOrT (wT (wOp fIs kTrue (wVar 3) (wC .none))) (wT (wOp fLt kTrue (wVar 8) (wVar 3)))) (wVar 8) (wVar 3))))) (wNext))) (wDPut (wVar 2) (wVar 0) (wVar 3)))) (wNext)) (wRet (wDGet (wVar 2) (wVar 0))))
def optB : Option Int → PyData
  | some b => .int b
  | none => .none
theorem eqv_tt (xs ys : List Int) : PyData.eqv (.tuple (xs.map .int)) (.tuple (ys.map .int)) = decide (xs = ys) := by rw [eqv_tuple, eqvAll_map _ eqv_int]
theorem sh_tt (xs : List Int) : SeqAt.shaped (.tuple (xs.map .int)) = true := (shp_tuple (k := 0) fun d hd => by
  obtain ⟨x, _, rfl⟩ := List.mem_map.mp hd
  exact shp_int x).sh
theorem sh_t0 : SeqAt.shaped (.tuple []) = true := sh_tt []
theorem law_least_from (n : Nat) : ∀ ds θ N Nx, spm_least n ds θ N Nx → w_least_from (prevM spm_least n) (bodyEN N Nx) (startD 10 ds) θ := by
  rintro ds θ N Nx ⟨left, ev, d, m, rfl, rfl, hs, hl, hc, hg, hn⟩
  have l10 := subs_len hs
  have e0 : PyData.eqv (tupD left) (.tuple []) = decide (left = []) := eqv_tt left []
  have s0 : SeqAt.shaped (tupD left) = true := sh_tt left
  simp_arith! [w_least_from, wDNi, wDGet, wDPut, e0, s0, sh_t0]
  cases left with
  | nil =>
    simp_arith! [decide_true, Nat.zero_le]
    exact hn m hg
  | cons x r =>
    have ef : decide ((x :: r : List Int) = []) = false := by simp
    simp_arith! [ef, tupD, MS.on.injEq, and_assoc]
    cases hget : getM m (x :: r) with
    | some v =>
      have ev0 := hg.get hget
      subst ev0
      simp_arith! [Option.isSome_some, hget]
      exact hn m hg
    | none =>
      simp_arith! [Option.isSome_none]
      refine forGo_inv2 evD (fun (es : Ev) (ρ : DS) (θ : MS) => ∃ (m' : List (List Int × Int)) (zs : Ev) (s4 s5 s6 s7 s8 : Sl), θ = .on d m' ∧ Good (least ev) m' ∧ ev = zs ++ es ∧
        ρ = [.is (.py (.tuple ((x :: r).map .int))), .is (.py (.list (ev.map evD))), .is (.rf d), .is (.py (optB (zs.foldl (stepL (least ev) x (x :: r)) none))), s4, s5, s6, s7, s8, .no]) (fun e es ρ θ h R hR => ?_) (fun ρ θ h => ?_) _ _ _ ⟨m, [], .no, .no, .no, .no, .no, rfl, hg, rfl, rfl⟩
      · obtain ⟨m', zs, s4, s5, s6, s7, s8, rfl, hg', ee, rfl⟩ := h
        obtain ⟨q, own, c⟩ := e
        have a0 : atI ((x :: r).map PyData.int) 0 = some (.int x) := atI_zero _ _
        have nx := fun mm (g : Good (least ev) mm) b s4 s5 s6 s7 s8 (hb : b = stepL (least ev) x (x :: r) (zs.foldl (stepL (least ev) x (x :: r)) none) (q, own, c)) => hR [.is (.py (.tuple ((x :: r).map .int))), .is (.py (.list (ev.map evD))), .is (.rf d), .is (.py (optB b)), s4, s5, s6, s7, s8, .no] (.on d mm) ⟨mm, zs ++ [(q, own, c)], s4, s5, s6, s7, s8, rfl, g, by rw [ee]; simp, by rw [List.foldl_append, hb]; rfl⟩
        simp_arith! [evD, tupD, a0, any_ints]
        by_cases hx : x ∈ own
        · have dx : decide (x ∈ own) = true := decide_eq_true hx
          simp_arith! [dx]
          refine lcGo_fm2 PyData.int (fun k => !decide (k ∈ own)) PyData.int _ (fun k hk T F t => ?_) (le_line (by omega)) ?_
          · simp_arith! [any_ints]
            exact t
          simp_arith! [e_tup_l]
          obtain ⟨k, rfl⟩ : ∃ k, n = k + 1 := ⟨n - 1, by simp only [List.length_cons] at hl; omega⟩
          have hr := rest_len (r := r) hx
          simp only [List.length_cons] at hl
          refine ⟨(x :: r).filter fun k => !decide (k ∈ own), ev, d, m', rfl, rfl, sub_filter hs _, by omega, fun y hy => hc y (List.mem_filter.mp hy).1, hg', fun m2 g2 => ?_⟩
          cases hb : zs.foldl (stepL (least ev) x (x :: r)) none with
          | none =>
            rw [hb] at nx
            simp_arith! [optB]
            exact nx m2 g2 (some _) _ _ _ _ _ (by unfold stepL; rw [if_pos hx])
          | some b =>
            rw [hb] at nx
            simp_arith! [optB]
            by_cases hlt : c + least ev ((x :: r).filter fun k => !decide (k ∈ own)) < b
            · simp_arith! [hlt]
              exact nx m2 g2 (some _) _ _ _ _ _ (by unfold stepL; rw [if_pos hx]; simp only [hlt, if_true])
            · simp_arith! [hlt]
              exact nx m2 g2 (some b) _ _ _ _ _ (by unfold stepL; rw [if_pos hx]; simp only [hlt, if_false])
        · have dx : decide (x ∈ own) = false := decide_eq_false hx
          simp_arith! [dx]
          exact nx m' hg' _ _ _ _ _ _ (by unfold stepL; rw [if_neg hx])
      · obtain ⟨m', zs, s4, s5, s6, s7, s8, rfl, hg', ee, rfl⟩ := h
        rw [List.append_nil] at ee
        subst ee
        have hb := step_some (least ev) x (x :: r) ev none (.inr (hc x List.mem_cons_self))
        have hle := least_cons ev x r
        cases hq : ev.foldl (stepL (least ev) x (x :: r)) none with
        | none => exact absurd hq hb
        | some b =>
          rw [hq] at hle
          have hlb : least ev (x :: r) = b := hle
          subst hlb
          cases hget2 : getM m' (x :: r) with
          | some v =>
            obtain ⟨g1, g2⟩ := hg'.over hget2
            simp_arith! [optB, MS.on.injEq, and_assoc, hg'.len, g1, g2]
            exact hn _ hg'
          | none =>
            obtain ⟨g1, g2⟩ := hg'.put hget2 hs
            simp_arith! [optB, MS.on.injEq, and_assoc, hg'.len, g2]
            exact hn _ g1
end RT
end
section
set_option Elab.async false
set_option linter.all false
set_option maxRecDepth 100000
set_option maxHeartbeats 8000000
namespace RT
open PySem PySem.Spec PyProof.Rows L2
local macro_rules | `(tactic| simp_arith! [$ts,*] $[$loc]?) => `(tactic| simp only [$ts,*, wCount, wIndex, wIsX, wTry, wVar, wOwn, wC, wOp, wT, wChain, wAndT, wOrT, wNotT, wAnd, wOr, wNot, wIf, wNil, wCons, wDisp, wCall, wCall0, wNoPart, wPart, wSl, wRevL, wBlt, wItL, wItT, wItS, wRg1, wRg2, wEnum, wZip, wLR, wLR2, wYes, wM1, wFmt, wJoined, wIsi, wNeg, wNewD, wOwnCat, wPar2, wNext, wSeq, wNever, wSet, wNew, wAug, wExtend, wAppend, wPut, wFrz, wRet, wRetOwn, wRetN, wDrop, wIfS, wgName, wgTup, wUnp, wRaise, bodyEN, wLc, wFor, wSortSet, e_add_i, e_add_s, e_add_l, e_add_t, e_kadd_i, e_kadd_s, e_kadd_l, e_kadd_t, e_sub, e_kt, e_mul_i, e_mul_l, e_kmul_i, e_kmul_l, e_div, e_kdiv, e_mod, e_kmod, e_cmp, e_eq, e_ne, e_keq, e_is_n, e_is_b, e_isn_n, e_isn_b, e_non_n, e_non_l, e_non_t, e_non_i, e_non_s, e_non_b, e_non_x, e_in_l, e_in_t, e_ni_l, e_ni_t, e_kin_l, e_kin_t, e_kin_s, e_ix_l, e_ix_t, e_ix_s, e_kix_l, e_kix_t, e_kix_s, e_sl_l, e_sl_t, e_sl_s, e_len_l, e_len_t, e_len_s, e_klen_l, e_klen_t, e_klen_s, e_kany, e_list_l, e_list_t, e_tup_l, e_tup_t, e_sum, e_max, e_max2, e_min, e_kne, e_kne2, e_all, e_str, e_kstr, e_int, e_kint, e_split, e_ksplit, e_part, e_kpart, e_join, e_kjoin, e_pys0, e_pys1, e_sa0, e_sa1, e_wipe0, e_wipe1, e_js0, e_js1, e_ty_i, e_ty_b, e_ty_n, e_ty_s, e_ty_l, e_ty_t, e_isi_ii, e_isi_ib, e_isi_in, e_isi_is, e_isi_il, e_isi_it, e_isi_bi, e_isi_bb, e_isi_bn, e_isi_bs, e_isi_bl, e_isi_bt, e_isi_li, e_isi_lb, e_isi_ln, e_isi_ls, e_isi_ll, e_isi_lt, e_isi_ti, e_isi_tb, e_isi_tn, e_isi_ts, e_isi_tl, e_isi_tt, e_isi_si, e_isi_sb, e_isi_sn, e_isi_ss, e_isi_sl, e_isi_st, e_up, e_st0, e_st1, e_st2, exists_eq_left, exists_eq_left', exists_eq_right, exists_eq_right', exists_eq', exists_eq, true_and, and_true, and_self, false_and, and_false, exists_and_left, exists_and_right, exists_const, Option.some.injEq, Option.map_some, Option.map_none, Sl.is.injEq, Sl.own.injEq, D.py.injEq, D.ex.injEq, D.rf.injEq, PyData.int.injEq, PyData.bool.injEq, PyData.str.injEq, PyData.list.injEq, PyData.tuple.injEq, List.cons.injEq, if_true, if_false, eq_self, Bool.false_eq_true, Bool.true_eq_false, Bool.not_true, Bool.not_false, Bool.not_not, List.getElem?_cons_zero, List.getElem?_cons_succ, List.set_cons_zero, List.set_cons_succ, List.length_cons, List.length_nil, List.cons_append, List.nil_append, reduceCtorEq, List.replicate_zero, List.replicate_succ, Nat.reduceAdd, Nat.reduceSub, decide_true, decide_false, intsOf_map', blsOf_map', strsOf_map', map_int_inj, map_str_inj, map_bool_inj, map_itD_inj, itD_iff, sh_int, sh_bool, sh_none, sh_itD, sh_nil, sh_ints, sh_its, eqv_int, eqv_bool, eqv_str, eqv_itD, eqv_ints, eqv_strs, eqv_its, eqv_nil, Nat.zero_le, and_assoc] $[$loc]?)
/-! ### lengths of shortest texts -/
/-- a spec told from the world without a dict -/
def Spec0.pre (s : Spec0) : Spec MS := fun ds θ N Nx => θ = .pre ∧ s ds (fun d => ∀ θ', N d θ') (fun k => ∀ θ', Nx k θ')
/-- the dict is forgotten -/
theorem down_pre {C : EK → Addr} {s : Spec0} {vs : List V} {H : Hp} {Q : VK} {E : XK} (h : SpD (V0 C) s.up vs H Q E) : SpD (VM C) s.pre vs H Q E := by
  obtain ⟨M, θ, ds, N, Nx, e, ok, j, r, sp, h1, h2⟩ := h
  have dz : ∀ M' : Wd, Ext M M' → Ext M ⟨M'.G, fun _ => none, M'.H⟩ ∧ ∀ b, (⟨M'.G, fun _ => none, M'.H⟩ : Wd).Z b = none := fun M' e' => ⟨⟨⟨e'.ok.g, fun b o h => (by cases h), fun _ _ _ => rfl⟩, e'.g, e'.t, fun b o hb hz => ⟨(e'.k b o hb hz).1, (e'.k b o hb hz).2.1, rfl⟩⟩, fun _ => rfl⟩
  refine ⟨M, .pre, ds, fun d _ => N d (), fun k _ => Nx k (), e, ok, j, r, ⟨rfl, ?_⟩, fun d θ' M' v e' j' r' n => ?_, fun k θ' M' e' j' n => ?_⟩
  · have sp' : s ds (fun d => N d ()) (fun k => Nx k ()) := sp
    have e1 : (fun d => ∀ _ : MS, N d ()) = fun d => N d () := funext fun d => propext ⟨fun h => h .pre, fun h _ => h⟩
    have e2 : (fun k => ∀ _ : MS, Nx k ()) = fun k => Nx k () := funext fun d => propext ⟨fun h => h .pre, fun h _ => h⟩
    rw [e1, e2]
    exact sp'
  · obtain ⟨x1, x2⟩ := dz M' e'
    exact h1 d () ⟨M'.G, fun _ => none, M'.H⟩ v x1 x2 r' n
  · obtain ⟨x1, x2⟩ := dz M' e'
    exact h2 k () ⟨M'.G, fun _ => none, M'.H⟩ x1 x2 n
theorem CalD.down {P : Program} {w : World} {K : PySem.W.Frag} {mg : Str → Option Value} {base : Heap} {k : Nat} {x : Str} {C : EK → Addr} {s : Spec0} (c : CalD P w K mg base k x (VM C) s.pre) : CalD P w K mg base k x (V0 C) s.up := by
  obtain ⟨f, fd, ps, F, a, b, e⟩ := c
  exact ⟨f, fd, ps, F.imp fun vs H Q E h => down_pre h, a, b, e⟩
/-- signs and a comma -/
def cstOf (q : Itm) : Int := ((textOf q).length : Int) + 1
theorem cst_pos (q : Itm) : 0 < cstOf q := by
  unfold cstOf
  omega
def weigh (its : List Itm) : Ev := wgh numbersOf cstOf its
def leastOf (ns : List Int) : Int := least (weigh (insideOf ns)) ns
def shortI (ns : List Int) : Int := leastOf ns - 1
theorem inside_iff {ns : List Int} {q : Itm} : q ∈ insideOf ns ↔ itemOk q = true ∧ ∀ k ∈ numbersOf q, k ∈ ns := by
  unfold insideOf
  rw [List.mem_filter, List.all_eq_true, item_mem]
  simp only [decide_eq_true_eq]
theorem one_ok : ∀ k ∈ ten, itemOk (oneI k) = true ∧ numbersOf (oneI k) = [k] := by decide +kernel
theorem one_inside {ns : List Int} (h : ns ∈ subs ten) {k : Int} (hk : k ∈ ns) : oneI k ∈ insideOf ns ∧ numbersOf (oneI k) = [k] := by
  obtain ⟨h1, h2⟩ := one_ok k (subs_ten h hk)
  refine ⟨inside_iff.mpr ⟨h1, fun j hj => ?_⟩, h2⟩
  rw [h2] at hj
  rw [List.mem_singleton.mp hj]
  exact hk
theorem inside_cov {ns : List Int} (h : ns ∈ subs ten) : covs numbersOf (insideOf ns) ns := fun k hk => ⟨oneI k, (one_inside h hk).1, by rw [(one_inside h hk).2]; exact List.mem_singleton_self _⟩
theorem weigh_cov {its : List Itm} {left : List Int} (h : covs numbersOf its left) : ∀ x ∈ left, ∃ e ∈ weigh its, x ∈ e.2.1 := fun x hx => by
  obtain ⟨q, hq, hn⟩ := h x hx
  exact ⟨_, List.mem_map.mpr ⟨q, hq, rfl⟩, hn⟩
def sp_weighed : Spec0 := fun ds N _ => ∃ ns : List Int, ds = [.py (.list (ns.map .int))] ∧ ns ∈ subs ten ∧ N (.py (.list ((weigh (insideOf ns)).map evD)))
def w_weighed : WS Unit :=
  wRet (wLc (wItL (wCall0 sp_within_of (wCons (wVar 0) (wNil)))) (wgName 1) (wYes) (wDisp .tuple (wCons (wVar 1) (wCons (wBlt fTuple kAny (wCons (wCall0 sp_numbers_of (wCons (wVar 1) (wNil))) (wNil))) (wCons (wOp fAdd kAdd (wBlt fLen kLen (wCons (wCall0 sp_text_of (wCons (wVar 1) (wNil))) (wNil))) (wC (.int 1))) (wNil))))) [1])
theorem law_weighed : ∀ ds θ N Nx, sp_weighed.up ds θ N Nx → w_weighed (bodyEN N Nx) (startD 2 ds) θ := by
  rintro ds θ N Nx ⟨ns, rfl, hs, n⟩
  simp_arith! [w_weighed, sp_within_of]
  refine ⟨hs, ?_⟩
  refine lcGo_map2 itD (fun q => evD (q, numbersOf q, cstOf q)) _ (fun q hq T t => ?_) (le_line (by have := inside_len ns; omega)) ?_
  · have ok := (inside_iff.mp hq).1
    have ts := (item_texts q (item_mem.mp ok)).2.1
    have tl : ((textOf q).length ≤ sizeLine) = True := eq_true (le_line (by omega))
    have l3 : (3 ≤ sizeLine) = True := eq_true (by decide)
    simp_arith! [sp_numbers_of, sp_text_of, tl, l3]
    exact ⟨q, rfl, rfl, rfl, ok, q, rfl, rfl, rfl, ok, of_eq_true tl, t⟩
  · have e : (insideOf ns).map (fun q => evD (q, numbersOf q, cstOf q)) = (weigh (insideOf ns)).map evD := by
      unfold weigh wgh
      rw [List.map_map]
      rfl
    rw [e]
    exact n
def sp_length_of : Spec0 := fun ds N _ => ∃ ns : List Int, ds = [.py (.list (ns.map .int))] ∧ ns ∈ subs ten ∧ N (.py (.int (shortI ns)))
def w_length_of : WS MS :=
  wRet (wOp fSub kTrue (wCall (spm_least 10) (wCons (wBlt fTuple kAny (wCons (wVar 0) (wNil))) (wCons (wCall0 sp_weighed (wCons (wVar 0) (wNil))) (wCons (wDNew) (wNil))))) (wC (.int 1)))
theorem law_length_of : ∀ ds θ N Nx, sp_length_of.pre ds θ N Nx → w_length_of (bodyEN N Nx) (startD 1 ds) θ := by
  rintro ds θ N Nx ⟨rfl, ns, rfl, hs, n⟩
  simp_arith! [w_length_of, sp_weighed, wDNew]
  refine ⟨hs, fun d => ?_⟩
  refine ⟨ns, weigh (insideOf ns), d, [], rfl, rfl, hs, subs_len hs, weigh_cov (inside_cov hs), .nil, fun m' _ => ?_⟩
  simp_arith! [and_true]
  exact n _
def sp_shortest_length : Spec0 := fun ds N Nx => ∃ d, ds = [.py d] ∧ Fine d ∧ (match setD d with | some ns => N (.py (.int (shortI ns))) | none => Nx .set)
def w_shortest_length : WS Unit :=
  wSeq (wDrop (wCall0 sp_check_set (wCons (wVar 0) (wNil)))) (wRet (wCall0 sp_length_of (wCons (wVar 0) (wNil))))
theorem law_shortest_length : ∀ ds θ N Nx, sp_shortest_length.up ds θ N Nx → w_shortest_length (bodyEN N Nx) (startD 1 ds) θ := by
  rintro ds θ N Nx ⟨d, rfl, fn, n⟩
  simp_arith! [w_shortest_length, sp_check_set]
  refine ⟨fn, ?_⟩
  rw [isSetD_eq]
  cases h : setD d with
  | none => simp_arith! [h, Option.isSome_none] at n ⊢; exact n
  | some ns =>
    obtain ⟨rfl, hs⟩ := setD_some h
    simp_arith! [h, Option.isSome_some, sp_length_of] at n ⊢
    exact ⟨(setI_iff.mp hs).1, n⟩
def sp_spare_signs : Spec0 := fun ds N Nx => ∃ d, ds = [.py d] ∧ Fine d ∧ (match setD d with | some ns => N (.py (.int (((plainOf ns).length : Int) - shortI ns))) | none => Nx .set)
def w_spare_signs : WS Unit :=
  wSeq (wDrop (wCall0 sp_check_set (wCons (wVar 0) (wNil)))) (wRet (wOp fSub kTrue (wBlt fLen kLen (wCons (wCall0 sp_plain_of (wCons (wVar 0) (wNil))) (wNil))) (wCall0 sp_length_of (wCons (wVar 0) (wNil)))))
theorem law_spare_signs : ∀ ds θ N Nx, sp_spare_signs.up ds θ N Nx → w_spare_signs (bodyEN N Nx) (startD 1 ds) θ := by
  rintro ds θ N Nx ⟨d, rfl, fn, n⟩
  simp_arith! [w_spare_signs, sp_check_set]
  refine ⟨fn, ?_⟩
  rw [isSetD_eq]
  cases h : setD d with
  | none => simp_arith! [h, Option.isSome_none] at n ⊢; exact n
  | some ns =>
    obtain ⟨rfl, hs⟩ := setD_some h
    have hs' := (setI_iff.mp hs).1
    have pl : ((plainOf ns).length ≤ sizeLine) = True := eq_true (le_line (tok_plain hs').2)
    simp_arith! [h, Option.isSome_some, sp_plain_of, sp_length_of, pl] at n ⊢
    exact ⟨hs', hs', n⟩
def sp_is_shortest : Spec0 := fun ds N Nx => ∃ d, ds = [.py d] ∧ TFine d ∧ (match itemsD d with | some its => its.length ≤ 400 ∧ ∃ z, d = .str z ∧ N (.py (.bool (decide ((z.length : Int) = shortI (setOf its))))) | none => Nx .text)
def w_is_shortest : WS Unit :=
  wSeq (wDrop (wCall0 sp_check_text (wCons (wVar 0) (wNil)))) (wRet (wOp fEq kEq (wBlt fLen kLen (wCons (wVar 0) (wNil))) (wCall0 sp_length_of (wCons (wCall0 sp_set_of (wCons (wCall0 sp_items_in (wCons (wVar 0) (wNil))) (wNil))) (wNil)))))
theorem law_is_shortest : ∀ ds θ N Nx, sp_is_shortest.up ds θ N Nx → w_is_shortest (bodyEN N Nx) (startD 1 ds) θ := by
  rintro ds θ N Nx ⟨d, rfl, fn, n⟩
  simp_arith! [w_is_shortest, sp_check_text, sp_items_in]
  refine ⟨fn, ?_⟩
  cases h : itemsD d with
  | none => simp_arith! [h] at n ⊢; exact n
  | some its =>
    simp only [h] at n
    obtain ⟨n1, z, rfl, n2⟩ := n
    have ok : TOk z := fn
    have zl : (z.length ≤ sizeLine) = True := eq_true (le_line ok.2)
    simp_arith! [h, optL_some, sp_set_of, sp_length_of, zl]
    exact ⟨fn, items_ok h, n1, setOf_subs its, n2⟩
def sp_shorter_by : Spec0 := fun ds N Nx => ∃ d, ds = [.py d] ∧ TFine d ∧ (match itemsD d with | some its => its.length ≤ 400 ∧ ∃ z, d = .str z ∧ N (.py (.int ((z.length : Int) - shortI (setOf its)))) | none => Nx .text)
def w_shorter_by : WS Unit :=
  wSeq (wDrop (wCall0 sp_check_text (wCons (wVar 0) (wNil)))) (wRet (wOp fSub kTrue (wBlt fLen kLen (wCons (wVar 0) (wNil))) (wCall0 sp_length_of (wCons (wCall0 sp_set_of (wCons (wCall0 sp_items_in (wCons (wVar 0) (wNil))) (wNil))) (wNil)))))
theorem law_shorter_by : ∀ ds θ N Nx, sp_shorter_by.up ds θ N Nx → w_shorter_by (bodyEN N Nx) (startD 1 ds) θ := by
  rintro ds θ N Nx ⟨d, rfl, fn, n⟩
  simp_arith! [w_shorter_by, sp_check_text, sp_items_in]
  refine ⟨fn, ?_⟩
  cases h : itemsD d with
  | none => simp_arith! [h] at n ⊢; exact n
  | some its =>
    simp only [h] at n
    obtain ⟨n1, z, rfl, n2⟩ := n
    have ok : TOk z := fn
    have zl : (z.length ≤ sizeLine) = True := eq_true (le_line ok.2)
    simp_arith! [h, optL_some, sp_set_of, sp_length_of, zl]
    exact ⟨fn, items_ok h, n1, setOf_subs its, n2⟩
/-! ### the fewest items -/
def ones (its : List Itm) : Ev := wgh numbersOf (fun _ => 1) its
def fewD (q : Itm) : PyData := .list ((numbersOf q).map .int)
def spm_fewest (n : Nat) : Spec MS := fun ds θ N _ => ∃ (left : List Int) (its : List Itm) (d : Addr) (m : List (List Int × Int)), ds = [.py (tupD left), .py (.list (its.map fewD)), .rf d] ∧ θ = .on d m ∧ left ∈ subs ten ∧ left.length ≤ n ∧
  covs numbersOf its left ∧ Good (least (ones its)) m ∧ ∀ m', Good (least (ones its)) m' → N (.py (.int (least (ones its) left))) (.on d m')
def w_fewest_from (sp : Spec MS) : WS MS :=
  wSeq (wIfS (wT (wOp fEq kEq (wVar 0) (wDisp .tuple (wNil)))) (wRet (wC (.int 0))) (wNext)) (wSeq (wIfS (wT (wDNi (wVar 0) (wVar 2))) (wSeq (wSet 3 (wC .none)) (wSeq (wFor (wItL (wVar 1)) (wgName 4) (wIfS (wT (wOp fIn kIn (wOp fIx kIx (wVar 0) (wC (.int 0))) (wVar 4))) (wSeq (wSet 5 (wOp fAdd kAdd (wC (.int 1)) (wCall sp (wCons (wBlt fTuple kAny (wCons (wLc (wItT (wVar 0)) (wgName 6) (wT (wOp fNi kIn (wVar 6) (wVar 4))) (wVar 6) [6]) (wNil))) (wCons (wVar 1) (wCons (wVar 2) (wNil))))))) (wSet 3 (wIf (wOrT (wT (wOp fIs kTrue (wVar 3) (wC .none))) (wT (wOp fLt kTrue (wVar 5) (wVar 3)))) (wVar 5) (wVar 3)))) (wNext))) (wDPut (wVar 2) (wVar 0) (wVar 3)))) (wNext)) (wRet (wDGet (wVar 2) (wVar 0))))
theorem law_fewest_from (n : Nat) : ∀ ds θ N Nx, spm_fewest n ds θ N Nx → w_fewest_from (prevM spm_fewest n) (bodyEN N Nx) (startD 7 ds) θ := by
  rintro ds θ N Nx ⟨left, its, d, m, rfl, rfl, hs, hl, hc, hg, hn⟩
  have l10 := subs_len hs
  have e0 : PyData.eqv (tupD left) (.tuple []) = decide (left = []) := eqv_tt left []
  have s0 : SeqAt.shaped (tupD left) = true := sh_tt left
  simp_arith! [w_fewest_from, wDNi, wDGet, wDPut, e0, s0, sh_t0]
  cases left with
  | nil =>
    simp_arith! [decide_true, Nat.zero_le]
    exact hn m hg
  | cons x r =>
    have ef : decide ((x :: r : List Int) = []) = false := by simp
    have cev : ∀ x' ∈ x :: r, ∃ e ∈ ones its, x' ∈ e.2.1 := fun x' hx => by
      obtain ⟨q, hq, h⟩ := hc x' hx
      exact ⟨_, List.mem_map.mpr ⟨q, hq, rfl⟩, h⟩
    simp_arith! [ef, tupD, MS.on.injEq, and_assoc]
    cases hget : getM m (x :: r) with
    | some v =>
      have ev0 := hg.get hget
      subst ev0
      simp_arith! [Option.isSome_some, hget]
      exact hn m hg
    | none =>
      simp_arith! [Option.isSome_none]
      refine forGo_inv2 fewD (fun (es : List Itm) (ρ : DS) (θ : MS) => ∃ (m' : List (List Int × Int)) (zs : List Itm) (s4 s5 : Sl), θ = .on d m' ∧ Good (least (ones its)) m' ∧ its = zs ++ es ∧
        ρ = [.is (.py (.tuple ((x :: r).map .int))), .is (.py (.list (its.map fewD))), .is (.rf d), .is (.py (optB ((ones zs).foldl (stepL (least (ones its)) x (x :: r)) none))), s4, s5, .no]) (fun q es ρ θ h R hR => ?_) (fun ρ θ h => ?_) _ _ _ ⟨m, [], .no, .no, rfl, hg, rfl, rfl⟩
      · obtain ⟨m', zs, s4, s5, rfl, hg', ee, rfl⟩ := h
        have a0 : atI ((x :: r).map PyData.int) 0 = some (.int x) := atI_zero _ _
        have nx := fun mm (g : Good (least (ones its)) mm) b s4 s5 (hb : b = stepL (least (ones its)) x (x :: r) ((ones zs).foldl (stepL (least (ones its)) x (x :: r)) none) (q, numbersOf q, 1)) => hR [.is (.py (.tuple ((x :: r).map .int))), .is (.py (.list (its.map fewD))), .is (.rf d), .is (.py (optB b)), s4, s5, .no] (.on d mm) ⟨mm, zs ++ [q], s4, s5, rfl, g, by rw [ee]; simp, by unfold ones wgh at hb ⊢; rw [List.map_append, List.foldl_append, hb]; rfl⟩
        simp_arith! [fewD, a0, any_ints]
        by_cases hx : x ∈ numbersOf q
        · have dx : decide (x ∈ numbersOf q) = true := decide_eq_true hx
          simp_arith! [dx]
          refine lcGo_fm2 PyData.int (fun k => !decide (k ∈ numbersOf q)) PyData.int _ (fun k hk T F t => ?_) (le_line (by omega)) ?_
          · simp_arith! [any_ints]
            exact t
          simp_arith! [e_tup_l]
          obtain ⟨k, rfl⟩ : ∃ k, n = k + 1 := ⟨n - 1, by simp only [List.length_cons] at hl; omega⟩
          have hr := rest_len (r := r) hx
          simp only [List.length_cons] at hl
          refine ⟨(x :: r).filter fun k => !decide (k ∈ numbersOf q), its, d, m', rfl, rfl, sub_filter hs _, by omega, fun y hy => hc y (List.mem_filter.mp hy).1, hg', fun m2 g2 => ?_⟩
          cases hb : (ones zs).foldl (stepL (least (ones its)) x (x :: r)) none with
          | none =>
            rw [hb] at nx
            simp_arith! [optB]
            exact nx m2 g2 (some _) _ _ (by unfold stepL; rw [if_pos hx])
          | some b =>
            rw [hb] at nx
            simp_arith! [optB]
            by_cases hlt : 1 + least (ones its) ((x :: r).filter fun k => !decide (k ∈ numbersOf q)) < b
            · simp_arith! [hlt]
              exact nx m2 g2 (some _) _ _ (by unfold stepL; rw [if_pos hx]; simp only [hlt, if_true])
            · simp_arith! [hlt]
              exact nx m2 g2 (some b) _ _ (by unfold stepL; rw [if_pos hx]; simp only [hlt, if_false])
        · have dx : decide (x ∈ numbersOf q) = false := decide_eq_false hx
          simp_arith! [dx]
          exact nx m' hg' _ _ _ (by unfold stepL; rw [if_neg hx])
      · obtain ⟨m', zs, s4, s5, rfl, hg', ee, rfl⟩ := h
        rw [List.append_nil] at ee
        subst ee
        have hb := step_some (least (ones its)) x (x :: r) (ones its) none (.inr (cev x List.mem_cons_self))
        have hle := least_cons (ones its) x r
        cases hq : (ones its).foldl (stepL (least (ones its)) x (x :: r)) none with
        | none => exact absurd hq hb
        | some b =>
          rw [hq] at hle
          have hlb : least (ones its) (x :: r) = b := hle
          subst hlb
          cases hget2 : getM m' (x :: r) with
          | some v =>
            obtain ⟨g1, g2⟩ := hg'.over hget2
            simp_arith! [optB, MS.on.injEq, and_assoc, hg'.len, g1, g2]
            exact hn _ hg'
          | none =>
            obtain ⟨g1, g2⟩ := hg'.put hget2 hs
            simp_arith! [optB, MS.on.injEq, and_assoc, hg'.len, g2]
            exact hn _ g1
def fewI (ns : List Int) : Int := least (ones (greatestOf ns)) ns
end RT
end
section
set_option Elab.async false
set_option linter.all false
set_option maxRecDepth 100000
set_option maxHeartbeats 8000000
namespace RT
open PySem PySem.Spec PyProof.Rows L2
/-! ### items taken out -/
def cutI (its : List Itm) (i : Nat) : List Itm := its.take i ++ its.drop (i + 1)
theorem cutI_len {its : List Itm} {i : Nat} (h : i < its.length) : (cutI its i).length + 1 = its.length := by
  unfold cutI
  rw [List.length_append, List.length_take, List.length_drop]
  omega
theorem cutI_mem {its : List Itm} {i : Nat} {q : Itm} (h : q ∈ cutI its i) : q ∈ its := by
  rcases List.mem_append.mp h with h | h
  · exact List.mem_of_mem_take h
  · exact List.mem_of_mem_drop h
theorem cutI_sub (its : List Itm) (i : Nat) : (cutI its i).Sublist its := by
  have h := List.take_append_drop i its
  have e : (its.drop (i + 1)) = (its.drop i).drop 1 := by rw [List.drop_drop]
  unfold cutI
  conv => rhs; rw [← h]
  rw [e]
  exact List.Sublist.append (List.Sublist.refl _) (List.drop_sublist _ _)
theorem all_of {its jts : List Itm} (ok : its.all itemOk = true) (h : ∀ q ∈ jts, q ∈ its) : jts.all itemOk = true := by
  rw [List.all_eq_true] at ok ⊢
  exact fun q hq => ok q (h q hq)
theorem needP_iff {its : List Itm} {i : Nat} : needP its i = true ↔ cutI its i ≠ [] ∧ setOf (cutI its i) = setOf its := by
  unfold needP
  show (!(cutI its i).isEmpty && decide (setOf (cutI its i) = setOf its)) = true ↔ _
  rw [Bool.and_eq_true, decide_eq_true_eq, Bool.not_eq_true', List.isEmpty_eq_false_iff]
/-- the first place of an item without need -/
def idleAt (its : List Itm) : Option Nat := (List.range its.length).find? (needP its)
def stepP (its : List Itm) : List Itm := match idleAt its with
  | some i => cutI its i
  | none => its
def iterP : Nat → List Itm → List Itm
  | 0, its => its
  | n + 1, its => iterP n (stepP its)
def prunedOf (its : List Itm) : List Itm := iterP its.length its
theorem idle_some {its : List Itm} {i : Nat} (h : idleAt its = some i) : i < its.length ∧ needP its i = true := ⟨List.mem_range.mp (List.mem_of_find?_eq_some h), List.find?_some h⟩
theorem idle_none {its : List Itm} (h : idleAt its = none) {i : Nat} (hi : i < its.length) : needP its i = false := by
  have := List.find?_eq_none.mp h i (List.mem_range.mpr hi)
  simpa using this
theorem stepP_none {its : List Itm} (h : idleAt its = none) : stepP its = its := by
  unfold stepP
  rw [h]
theorem stepP_some {its : List Itm} {i : Nat} (h : idleAt its = some i) : stepP its = cutI its i := by
  unfold stepP
  rw [h]
theorem iterP_none {its : List Itm} (h : idleAt its = none) : ∀ n, iterP n its = its
  | 0 => rfl
  | n + 1 => by
    show iterP n (stepP its) = its
    rw [stepP_none h]
    exact iterP_none h n
theorem iterP_fuel : ∀ (n m : Nat) (its : List Itm), its.length ≤ n → its.length ≤ m → iterP n its = iterP m its
  | 0, m, its, h, _ => by
    have e : its = [] := List.eq_nil_of_length_eq_zero (by omega)
    subst e
    exact (iterP_none rfl m).symm
  | n + 1, 0, its, _, h => by
    have e : its = [] := List.eq_nil_of_length_eq_zero (by omega)
    subst e
    exact iterP_none rfl (n + 1)
  | n + 1, m + 1, its, h1, h2 => by
    cases h : idleAt its with
    | none => rw [iterP_none h, iterP_none h]
    | some i =>
      show iterP n (stepP its) = iterP m (stepP its)
      rw [stepP_some h]
      have := cutI_len (idle_some h).1
      exact iterP_fuel n m _ (by omega) (by omega)
theorem iterP_back : ∀ (n : Nat) (its : List Itm), iterP (n + 1) its = stepP (iterP n its)
  | 0, _ => rfl
  | n + 1, its => iterP_back n (stepP its)
theorem pruned_step {its : List Itm} {i : Nat} (h : idleAt its = some i) : prunedOf its = prunedOf (cutI its i) := by
  have l := cutI_len (idle_some h).1
  unfold prunedOf
  rw [iterP_fuel its.length (its.length + 1) its (Nat.le_refl _) (by omega)]
  show iterP its.length (stepP its) = _
  rw [stepP_some h]
  exact iterP_fuel _ _ _ (by omega) (Nat.le_refl _)
theorem pruned_stop {its : List Itm} (h : idleAt its = none) : prunedOf its = its := iterP_none h _
/-- what holds of it -/
structure Prn (its jts : List Itm) : Prop where
  set : setOf jts = setOf its
  sub : jts.Sublist its
  ne : its ≠ [] → jts ≠ []
theorem Prn.refl (its : List Itm) : Prn its its := ⟨rfl, List.Sublist.refl _, id⟩
theorem Prn.trans {a b c : List Itm} (x : Prn a b) (y : Prn b c) : Prn a c := ⟨y.set.trans x.set, y.sub.trans x.sub, fun h => y.ne (x.ne h)⟩
theorem stepP_prn (its : List Itm) : Prn its (stepP its) := by
  cases h : idleAt its with
  | none => rw [stepP_none h]; exact .refl _
  | some i =>
    rw [stepP_some h]
    obtain ⟨h1, h2⟩ := needP_iff.mp (idle_some h).2
    exact ⟨h2, cutI_sub _ _, fun _ => h1⟩
theorem iterP_prn : ∀ (n : Nat) (its : List Itm), Prn its (iterP n its)
  | 0, _ => .refl _
  | n + 1, its => (stepP_prn its).trans (iterP_prn n (stepP its))
theorem pruned_prn (its : List Itm) : Prn its (prunedOf its) := iterP_prn _ _
theorem pruned_idle : ∀ (n : Nat) (its : List Itm), its.length ≤ n → idleAt (prunedOf its) = none
  | 0, its, h => by
    have e : its = [] := List.eq_nil_of_length_eq_zero (by omega)
    subst e
    rfl
  | n + 1, its, h => by
    cases hi : idleAt its with
    | none => rw [pruned_stop hi]; exact hi
    | some i =>
      rw [pruned_step hi]
      have := cutI_len (idle_some hi).1
      exact pruned_idle n _ (by omega)
theorem pruned_twice (its : List Itm) : prunedOf (prunedOf its) = prunedOf its := pruned_stop (pruned_idle _ its (Nat.le_refl _))
theorem needless_none {its : List Itm} (h : idleAt its = none) : needlessOf its = [] := by
  unfold needlessOf needTo
  have : (List.range its.length).filter (needP its) = [] := List.filter_eq_nil_iff.mpr fun i hi => by
    rw [idle_none h (List.mem_range.mp hi)]
    decide
  rw [this]
  rfl
/-! lengths of texts -/
theorem sum_lens (its : List Itm) : (((((its.map textOf).map fun z : Str => z.length).sum : Nat)) : Int) + (its.length : Int) = sumI cstOf its := by
  induction its with
  | nil => rfl
  | cons q its ih =>
    have e : sumI cstOf (q :: its) = ((textOf q).length : Int) + 1 + sumI cstOf its := rfl
    rw [e, List.map_cons, List.map_cons, List.sum_cons, List.length_cons]
    omega
theorem joinL_len : ∀ ls : List (List Nat), ls ≠ [] → (TL.joinL [44] ls).length + 1 = (ls.map (·.length)).sum + ls.length
  | [], h => absurd rfl h
  | [p], _ => by simp [TL.joinL]
  | p :: q :: r, _ => by
    have ih := joinL_len (q :: r) (by simp)
    show (p ++ ([44] ++ TL.joinL [44] (q :: r))).length + 1 = _
    rw [List.length_append, List.length_append]
    simp only [List.map_cons, List.sum_cons, List.length_cons, List.length_nil] at ih ⊢
    omega
theorem joinI_cost {its : List Itm} (ne : its ≠ []) : ((joinI its).length : Int) = sumI cstOf its - 1 := by
  have e : (joinI its).length = (TL.joinL [44] ((its.map textOf).map TL.tl)).length := by
    unfold joinI
    have hj : Txt.join "," (its.map textOf) = Str.join "," (its.map textOf) := TL.join_eq _ _
    rw [hj, TL.len_tl, TL.tl_join]
    have hc : TL.tl "," = [44] := by decide +kernel
    rw [hc]
  have h := joinL_len ((its.map textOf).map TL.tl) (by simp [ne])
  have e2 : (((its.map textOf).map TL.tl).map (·.length)) = (its.map textOf).map (·.length) := by
    rw [List.map_map]
    refine List.map_congr_left fun z _ => ?_
    exact (TL.len_tl z).symm
  rw [e2, List.length_map, List.length_map] at h
  have s := sum_lens its
  omega
theorem sumI_sub {f : Itm → Int} (h : ∀ q, 0 ≤ f q) : ∀ {a b : List Itm}, a.Sublist b → sumI f a ≤ sumI f b
  | _, _, .slnil => Int.le_refl _
  | _, _, .cons (l₂ := l) x s => by
    have := sumI_sub h s
    have := h x
    show _ ≤ f x + sumI f l
    omega
  | _, _, .cons₂ (l₁ := k) (l₂ := l) x s => by
    have := sumI_sub h s
    show f x + sumI f k ≤ f x + sumI f l
    omega
theorem sumI_one (its : List Itm) : sumI (fun _ => 1) its = its.length := by
  induction its with
  | nil => rfl
  | cons q its ih =>
    show 1 + sumI (fun _ => 1) its = ((its.length + 1 : Nat) : Int)
    rw [ih]
    omega
/-! ### lengths and texts: none is shorter -/
theorem set_inside {its : List Itm} (ok : its.all itemOk = true) : ∀ q ∈ its, q ∈ insideOf (setOf its) := fun q hq => inside_iff.mpr ⟨List.all_eq_true.mp ok q hq, fun k hk => mem_setOf.mpr ⟨q, hq, hk⟩⟩
theorem set_covs (its : List Itm) : covs numbersOf its (setOf its) := fun k hk => mem_setOf.mp hk
theorem set_of_inside {ns : List Int} (h : ns ∈ subs ten) {its : List Itm} (hi : ∀ q ∈ its, q ∈ insideOf ns) (hc : covs numbersOf its ns) : setOf its = ns := by
  refine asc_uniq (setOf_asc _) (subs_asc h) fun k => ?_
  rw [mem_setOf]
  exact ⟨fun ⟨q, hq, hk⟩ => (inside_iff.mp (hi q hq)).2 k hk, fun hk => hc k hk⟩
/-- a text is no shorter than the shortest -/
theorem short_le {its : List Itm} (ok : its.all itemOk = true) (ne : its ≠ []) : shortI (setOf its) ≤ ((joinI its).length : Int) := by
  rw [joinI_cost ne]
  have := least_le (cst := cstOf) (nb := numbersOf) (fun q => Int.le_of_lt (cst_pos q)) (its := insideOf (setOf its)) _ (setOf its) its (Nat.le_refl _) (set_inside ok) (set_covs its)
  unfold shortI leastOf weigh
  omega
/-- some text is the shortest -/
theorem short_get {ns : List Int} (h : ns ∈ subs ten) (ne : ns ≠ []) : ∃ its, its.all itemOk = true ∧ its ≠ [] ∧ setOf its = ns ∧ sumI cstOf its = leastOf ns ∧ ((joinI its).length : Int) = shortI ns := by
  obtain ⟨t, t1, t2, t3, t4⟩ := least_get (cst := cstOf) (nb := numbersOf) (its := insideOf ns) _ ns (Nat.le_refl _) (inside_cov h)
  refine ⟨t, List.all_eq_true.mpr fun q hq => (inside_iff.mp (t1 q hq)).1, t4 ne, set_of_inside h t1 t2, t3, ?_⟩
  rw [joinI_cost (t4 ne), t3]
  rfl
/-! ### the fewest items -/
theorem wider_len : ∀ p ∈ itemsAll, ∀ q ∈ itemsAll, widerP q p = true → (numbersOf q).length < (numbersOf p).length := by decide +kernel
theorem great_up {ns : List Int} : ∀ (d : Nat) (q : Itm), q ∈ insideOf ns → 10 - (numbersOf q).length ≤ d → ∃ g ∈ greatestOf ns, ∀ k ∈ numbersOf q, k ∈ numbersOf g
  | d, q, hq, hd => by
    cases he : ((insideOf ns).filter (widerP q)).isEmpty with
    | true => exact ⟨q, List.mem_filter.mpr ⟨hq, he⟩, fun _ h => h⟩
    | false =>
      cases hf : (insideOf ns).filter (widerP q) with
      | nil => rw [hf] at he; cases he
      | cons p r =>
        have hp : p ∈ (insideOf ns).filter (widerP q) := by rw [hf]; exact List.mem_cons_self
        obtain ⟨p1, p2⟩ := List.mem_filter.mp hp
        have lt := wider_len p (List.mem_filter.mp p1).1 q (List.mem_filter.mp hq).1 p2
        have l10 := (rg_items p (List.mem_filter.mp p1).1).2.2
        have sub : ∀ k ∈ numbersOf q, k ∈ numbersOf p := fun k hk => by
          unfold widerP at p2
          rw [Bool.and_eq_true, List.all_eq_true] at p2
          exact of_decide_eq_true (p2.2 k hk)
        match d, hd with
        | 0, hd => omega
        | d + 1, hd =>
          obtain ⟨g, g1, g2⟩ := great_up d p p1 (by omega)
          exact ⟨g, g1, fun k hk => g2 k (sub k hk)⟩
theorem great_inside {ns : List Int} {q : Itm} (h : q ∈ greatestOf ns) : q ∈ insideOf ns := (List.mem_filter.mp h).1
theorem great_cov {ns : List Int} {t : List Itm} (hi : ∀ q ∈ t, q ∈ insideOf ns) {left : List Int} (hc : covs numbersOf t left) : ∃ u : List Itm, u.length = t.length ∧ (∀ q ∈ u, q ∈ greatestOf ns) ∧ covs numbersOf u left := by
  have pick : ∀ t : List Itm, (∀ q ∈ t, q ∈ insideOf ns) → ∃ u : List Itm, u.length = t.length ∧ (∀ q ∈ u, q ∈ greatestOf ns) ∧ ∀ q ∈ t, ∃ g ∈ u, ∀ k ∈ numbersOf q, k ∈ numbersOf g := by
    intro t
    induction t with
    | nil => exact fun _ => ⟨[], rfl, nofun, nofun⟩
    | cons q t ih =>
      intro h
      obtain ⟨u, u1, u2, u3⟩ := ih fun p hp => h p (List.mem_cons_of_mem _ hp)
      obtain ⟨g, g1, g2⟩ := great_up _ q (h q List.mem_cons_self) (Nat.le_refl _)
      refine ⟨g :: u, by simp [u1], fun p hp => ?_, fun p hp => ?_⟩
      · rcases List.mem_cons.mp hp with rfl | hp
        · exact g1
        · exact u2 p hp
      · rcases List.mem_cons.mp hp with rfl | hp
        · exact ⟨g, List.mem_cons_self, g2⟩
        · obtain ⟨g', h1, h2⟩ := u3 p hp
          exact ⟨g', List.mem_cons_of_mem _ h1, h2⟩
  obtain ⟨u, u1, u2, u3⟩ := pick t hi
  refine ⟨u, u1, u2, fun k hk => ?_⟩
  obtain ⟨q, hq, hn⟩ := hc k hk
  obtain ⟨g, g1, g2⟩ := u3 q hq
  exact ⟨g, g1, g2 k hn⟩
theorem few_le {its : List Itm} (ok : its.all itemOk = true) : fewI (setOf its) ≤ its.length := by
  obtain ⟨u, u1, u2, u3⟩ := great_cov (set_inside ok) (set_covs its)
  have := least_le (cst := fun _ => 1) (nb := numbersOf) (fun q => by omega) (its := greatestOf (setOf its)) _ (setOf its) u (Nat.le_refl _) u2 u3
  rw [sumI_one, u1] at this
  exact this
theorem great_covers {ns : List Int} (h : ns ∈ subs ten) : covs numbersOf (greatestOf ns) ns := fun k hk => by
  obtain ⟨h1, h2⟩ := one_inside h hk
  obtain ⟨g, g1, g2⟩ := great_up _ (oneI k) h1 (Nat.le_refl _)
  exact ⟨g, g1, g2 k (by rw [h2]; exact List.mem_singleton_self _)⟩
theorem few_get {ns : List Int} (h : ns ∈ subs ten) : ∃ its : List Itm, its.all itemOk = true ∧ (∀ q ∈ its, q ∈ insideOf ns) ∧ setOf its = ns ∧ (its.length : Int) = fewI ns := by
  obtain ⟨t, t1, t2, t3, _⟩ := least_get (cst := fun _ => 1) (nb := numbersOf) (its := greatestOf ns) _ ns (Nat.le_refl _) (great_covers h)
  have ti := fun q hq => great_inside (t1 q hq)
  refine ⟨t, List.all_eq_true.mpr fun q hq => (inside_iff.mp (ti q hq)).1, ti, set_of_inside h ti t2, ?_⟩
  rw [← sumI_one]
  exact t3
end RT
end
section
set_option Elab.async false
set_option linter.all false
set_option maxRecDepth 100000
set_option maxHeartbeats 8000000
namespace RT
open PySem PySem.Spec PyProof.Rows L2
local macro_rules | `(tactic| simp_arith! [$ts,*] $[$loc]?) => `(tactic| simp only [$ts,*, wCount, wIndex, wIsX, wTry, wVar, wOwn, wC, wOp, wT, wChain, wAndT, wOrT, wNotT, wAnd, wOr, wNot, wIf, wNil, wCons, wDisp, wCall, wCall0, wNoPart, wPart, wSl, wRevL, wBlt, wItL, wItT, wItS, wRg1, wRg2, wEnum, wZip, wLR, wLR2, wYes, wM1, wFmt, wJoined, wIsi, wNeg, wNewD, wOwnCat, wPar2, wNext, wSeq, wNever, wSet, wNew, wAug, wExtend, wAppend, wPut, wFrz, wRet, wRetOwn, wRetN, wDrop, wIfS, wgName, wgTup, wUnp, wRaise, bodyEN, wLc, wFor, wSortSet, e_add_i, e_add_s, e_add_l, e_add_t, e_kadd_i, e_kadd_s, e_kadd_l, e_kadd_t, e_sub, e_kt, e_mul_i, e_mul_l, e_kmul_i, e_kmul_l, e_div, e_kdiv, e_mod, e_kmod, e_cmp, e_eq, e_ne, e_keq, e_is_n, e_is_b, e_isn_n, e_isn_b, e_non_n, e_non_l, e_non_t, e_non_i, e_non_s, e_non_b, e_non_x, e_in_l, e_in_t, e_ni_l, e_ni_t, e_kin_l, e_kin_t, e_kin_s, e_ix_l, e_ix_t, e_ix_s, e_kix_l, e_kix_t, e_kix_s, e_sl_l, e_sl_t, e_sl_s, e_len_l, e_len_t, e_len_s, e_klen_l, e_klen_t, e_klen_s, e_kany, e_list_l, e_list_t, e_tup_l, e_tup_t, e_sum, e_max, e_max2, e_min, e_kne, e_kne2, e_all, e_str, e_kstr, e_int, e_kint, e_split, e_ksplit, e_part, e_kpart, e_join, e_kjoin, e_pys0, e_pys1, e_sa0, e_sa1, e_wipe0, e_wipe1, e_js0, e_js1, e_ty_i, e_ty_b, e_ty_n, e_ty_s, e_ty_l, e_ty_t, e_isi_ii, e_isi_ib, e_isi_in, e_isi_is, e_isi_il, e_isi_it, e_isi_bi, e_isi_bb, e_isi_bn, e_isi_bs, e_isi_bl, e_isi_bt, e_isi_li, e_isi_lb, e_isi_ln, e_isi_ls, e_isi_ll, e_isi_lt, e_isi_ti, e_isi_tb, e_isi_tn, e_isi_ts, e_isi_tl, e_isi_tt, e_isi_si, e_isi_sb, e_isi_sn, e_isi_ss, e_isi_sl, e_isi_st, e_up, e_st0, e_st1, e_st2, exists_eq_left, exists_eq_left', exists_eq_right, exists_eq_right', exists_eq', exists_eq, true_and, and_true, and_self, false_and, and_false, exists_and_left, exists_and_right, exists_const, Option.some.injEq, Option.map_some, Option.map_none, Sl.is.injEq, Sl.own.injEq, D.py.injEq, D.ex.injEq, D.rf.injEq, PyData.int.injEq, PyData.bool.injEq, PyData.str.injEq, PyData.list.injEq, PyData.tuple.injEq, List.cons.injEq, if_true, if_false, eq_self, Bool.false_eq_true, Bool.true_eq_false, Bool.not_true, Bool.not_false, Bool.not_not, List.getElem?_cons_zero, List.getElem?_cons_succ, List.set_cons_zero, List.set_cons_succ, List.length_cons, List.length_nil, List.cons_append, List.nil_append, reduceCtorEq, List.replicate_zero, List.replicate_succ, Nat.reduceAdd, Nat.reduceSub, decide_true, decide_false, intsOf_map', blsOf_map', strsOf_map', map_int_inj, map_str_inj, map_bool_inj, map_itD_inj, itD_iff, sh_int, sh_bool, sh_none, sh_itD, sh_nil, sh_ints, sh_its, eqv_int, eqv_bool, eqv_str, eqv_itD, eqv_ints, eqv_strs, eqv_its, eqv_nil, Nat.zero_le, and_assoc] $[$loc]?)
/-! ### an item more, an item less -/
theorem split_its {z : Str} {its : List Itm} (h : itemsD (.str z) = some its) : Txt.split z "," = its.map textOf := by
  have e := mapM_some.mp (show (Txt.split z ",").mapM itemIn = some its from h)
  have gen : ∀ (ps : List Str) (qs : List Itm), ps.map itemIn = qs.map some → ps = qs.map textOf := by
    intro ps
    induction ps with
    | nil =>
      intro qs h
      cases qs with
      | nil => rfl
      | cons _ _ => cases h
    | cons p ps ih =>
      intro qs h
      cases qs with
      | nil => cases h
      | cons q qs =>
        rw [List.map_cons, List.map_cons] at h
        injection h with h1 h2
        rw [List.map_cons, ← (itemIn_some.mp h1).2, ih qs h2]
  exact gen _ _ e
theorem its_ne {d : PyData} {its : List Itm} (h : itemsD d = some its) : its ≠ [] := by
  cases d with
  | str z =>
    intro e
    have s := split_its h
    rw [e] at s
    have := (PyProof.Rows.fact_split z ",").1
    rw [s] at this
    simp at this
  | _ => cases h
theorem joinI_snoc {its : List Itm} (ne : its ≠ []) (q : Itm) : joinI (its ++ [q]) = (joinI its ++ ",") ++ textOf q := by
  have hj : ∀ l : List Itm, TL.tl (joinI l) = TL.joinL [44] (l.map fun q => TL.tl (textOf q)) := fun l => by
    have e : Txt.join "," (l.map textOf) = Str.join "," (l.map textOf) := TL.join_eq _ _
    have hc : TL.tl "," = [44] := by decide +kernel
    unfold joinI
    rw [e, TL.tl_join, hc, List.map_map]
    rfl
  have snoc : ∀ (l : List (List Nat)) (p : List Nat), l ≠ [] → TL.joinL [44] (l ++ [p]) = TL.joinL [44] l ++ [44] ++ p := by
    intro l p
    induction l with
    | nil => exact fun h => absurd rfl h
    | cons a r ih =>
      intro _
      cases r with
      | nil => simp [TL.joinL]
      | cons b r =>
        have := ih (by simp)
        show a ++ ([44] ++ TL.joinL [44] (b :: r ++ [p])) = a ++ ([44] ++ TL.joinL [44] (b :: r)) ++ [44] ++ p
        rw [this]
        simp
  have hc : TL.tl "," = [44] := by decide +kernel
  rw [← TL.mk_tl (joinI (its ++ [q])), ← TL.mk_tl ((joinI its ++ ",") ++ textOf q), TL.tl_append, TL.tl_append, hj, hj, hc, List.map_append, List.map_cons, List.map_nil, snoc _ _ (by simp [ne])]
def sp_with_item : Spec0 := fun ds N Nx => ∃ d e, ds = [.py d, .py e] ∧ TFine d ∧ Sz e ∧ (match itemsD d with
  | some its => (match itemD e with | some q => ∃ z, d = .str z ∧ N (.py (.str ((z ++ ",") ++ textOf q))) | none => Nx .item)
  | none => Nx .text)
def w_with_item : WS Unit :=
  wSeq (wDrop (wCall0 sp_check_text (wCons (wVar 0) (wNil)))) (wSeq (wDrop (wCall0 sp_check_item (wCons (wVar 1) (wNil)))) (wRet (wOp fAdd kAdd (wOp fAdd kAdd (wVar 0) (wC (.str ","))) (wCall0 sp_text_of (wCons (wVar 1) (wNil))))))
theorem law_with_item : ∀ ds θ N Nx, sp_with_item.up ds θ N Nx → w_with_item (bodyEN N Nx) (startD 2 ds) θ := by
  rintro ds θ N Nx ⟨d, e, rfl, fn, fe, n⟩
  simp_arith! [w_with_item, sp_check_text]
  refine ⟨fn, ?_⟩
  cases h : itemsD d with
  | none => simp_arith! [h] at n ⊢; exact n
  | some its =>
    simp only [h] at n
    simp_arith! [sp_check_item]
    refine ⟨fe, ?_⟩
    cases h2 : itemD e with
    | none => simp_arith! [h2] at n ⊢; exact n
    | some q =>
      simp only [h2] at n
      obtain ⟨z, rfl, n⟩ := n
      obtain ⟨rfl, ok⟩ := itemD_some h2
      have tz : TOk z := fn
      have ts := (item_texts q (item_mem.mp ok)).2.1
      have l1 : (z.length + ("," : Str).length ≤ sizeLine) = True := eq_true (by rw [comma_len]; have := tz.2; exact le_line' (by omega))
      have l2 : ((z ++ "," : Str).length + (textOf q).length ≤ sizeLine) = True := eq_true (by rw [PySem.Str.length_append, comma_len]; have := tz.2; exact le_line' (by omega))
      simp_arith! [sp_text_of, l1, l2]
      exact ⟨q, rfl, rfl, rfl, ok, by simpa using of_eq_true l2, n⟩
def cutS' (its : List Itm) (i : Nat) : Str := joinI (cutI its i)
def sp_without_item : Spec0 := fun ds N Nx => ∃ d e, ds = [.py d, .py e] ∧ TFine d ∧ (match itemsD d with
  | some its => its.length ≤ 1000 ∧ (match e with
    | .int v => if isIntD 0 ((its.length : Int) - 1) (.int v) = true then (if its.length = 1 then Nx .none else N (.py (.str (joinI (cutI its v.toNat))))) else Nx .number
    | _ => Nx .number)
  | none => Nx .text)
def w_without_item : WS Unit :=
  wSeq (wDrop (wCall0 sp_check_text (wCons (wVar 0) (wNil)))) (wSeq (wSet 2 (wM1 fSplit kSplit (wVar 0) (wC (.str ",")))) (wSeq (wIfS (wNotT (wT (wCall0 sp_is_int (wCons (wVar 1) (wCons (wC (.int 0)) (wCons (wOp fSub kTrue (wBlt fLen kLen (wCons (wVar 2) (wNil))) (wC (.int 1))) (wNil))))))) (wRaise .number) (wNext)) (wSeq (wIfS (wT (wOp fEq kEq (wBlt fLen kLen (wCons (wVar 2) (wNil))) (wC (.int 1)))) (wRaise .none) (wNext)) (wRet (wM1 fJoin kJoin (wC (.str ",")) (wOp fAdd kAdd (wSl (wVar 2) (wNoPart) (wPart (wVar 1))) (wSl (wVar 2) (wPart (wOp fAdd kAdd (wVar 1) (wC (.int 1)))) (wNoPart))))))))
theorem law_without_item : ∀ ds θ N Nx, sp_without_item.up ds θ N Nx → w_without_item (bodyEN N Nx) (startD 3 ds) θ := by
  rintro ds θ N Nx ⟨d, e, rfl, fn, n⟩
  simp_arith! [w_without_item, sp_check_text]
  refine ⟨fn, ?_⟩
  cases h : itemsD d with
  | none => simp_arith! [h] at n ⊢; exact n
  | some its =>
    simp only [h] at n
    obtain ⟨hl, n⟩ := n
    cases d with
    | str z =>
      have tz : TOk z := fn
      have cm : (("," : Str).length == 0) = false := by decide +kernel
      have l2 : (z.length + 2 ≤ sizeLine) = True := eq_true (le_line' (by have := tz.2; omega))
      have es := split_its h
      simp_arith! [cm, l2, es, sp_is_int, List.length_map]
      have ne := its_ne h
      cases e with
      | int v =>
        simp only at n
        cases hv : isIntD 0 ((its.length : Int) - 1) (.int v) with
        | false => rw [hv] at n; simp_arith! [and_true] at n ⊢; exact n
        | true =>
          rw [hv] at n
          simp_arith! [and_true] at n ⊢
          have hv' : 0 ≤ v ∧ v ≤ (its.length : Int) - 1 := by simpa [isIntD] using hv
          by_cases h1 : its.length = 1
          · have h1' : decide ((its.length : Int) = 1) = true := decide_eq_true (by omega)
            rw [if_pos h1] at n
            simp_arith! [h1']
            exact n
          · have h1' : decide ((its.length : Int) = 1) = false := decide_eq_false (by omega)
            rw [if_neg h1] at n
            have ev : ((v.toNat : Nat) : Int) = v := Int.toNat_of_nonneg hv'.1
            have c1 : cutD ((its.map textOf).map PyData.str) none (some v) = ((its.take v.toNat).map textOf).map .str := by
              rw [← ev, cutD_take (by rw [List.length_map, List.length_map]; omega), Int.toNat_natCast, ← List.map_take, ← List.map_take]
            have c2 : cutD ((its.map textOf).map PyData.str) (some (v + 1)) none = ((its.drop (v.toNat + 1)).map textOf).map .str := by
              have := cutD_drop (xs := (its.map textOf).map PyData.str) (i := v.toNat + 1) (by rw [List.length_map, List.length_map]; omega)
              rw [Int.natCast_add, ev] at this
              rw [List.map_drop, List.map_drop]
              exact this
            have ec : (its.take v.toNat).map textOf ++ (its.drop (v.toNat + 1)).map textOf = (cutI its v.toNat).map textOf := by unfold cutI; rw [List.map_append]
            have sz : (((its.take v.toNat).map textOf).map PyData.str).length + (((its.drop (v.toNat + 1)).map textOf).map PyData.str).length ≤ sizeLine := by
              rw [List.length_map, List.length_map, List.length_map, List.length_map, List.length_take, List.length_drop]
              exact le_line (by omega)
            simp_arith! [h1', c1, c2, sz, ← List.map_append (f := PyData.str), ec]
            refine ⟨fun ys hy => ?_, n⟩
            subst hy
            exact joins_ok (all_of (items_ok h) fun q hq => cutI_mem hq) (by have := (cutI_sub its v.toNat).length_le; omega)
      | _ =>
        simp_arith! [isIntD] at n ⊢
        exact n
    | _ => cases h
/-! ### needless items taken out -/
def sp_pruned : Spec0 := fun ds N Nx => ∃ d, ds = [.py d] ∧ TFine d ∧ (match itemsD d with | some its => its.length ≤ 400 ∧ N (.py (.str (joinI (prunedOf its)))) | none => Nx .text)
def w_pruned : WS Unit :=
  wSeq (wDrop (wCall0 sp_check_text (wCons (wVar 0) (wNil)))) (wSeq (wSet 1 (wCall0 sp_items_in (wCons (wVar 0) (wNil)))) (wSeq (wSet 2 (wC (.int 0))) (wSeq (wWhile (wT (wOp fLt kTrue (wVar 2) (wBlt fLen kLen (wCons (wVar 1) (wNil))))) (wSeq (wSet 3 (wOp fAdd kAdd (wSl (wVar 1) (wNoPart) (wPart (wVar 2))) (wSl (wVar 1) (wPart (wOp fAdd kAdd (wVar 2) (wC (.int 1)))) (wNoPart)))) (wIfS (wAndT (wT (wOp fNe kEq (wVar 3) (wDisp .list (wNil)))) (wT (wOp fEq kEq (wCall0 sp_set_of (wCons (wVar 3) (wNil))) (wCall0 sp_set_of (wCons (wVar 1) (wNil)))))) (wSeq (wSet 1 (wVar 3)) (wSet 2 (wC (.int 0)))) (wAug 2 fAdd kInts (wC (.int 1)))))) (wRet (wM1 fJoin kJoin (wC (.str ",")) (wLc (wItL (wVar 1)) (wgName 4) (wYes) (wCall0 sp_text_of (wCons (wVar 4) (wNil))) [4]))))))
abbrev prC : WT Unit := wT (wOp fLt kTrue (wVar 2) (wBlt fLen kLen (wCons (wVar 1) (wNil))))
abbrev prB : WS Unit := wSeq (wSet 3 (wOp fAdd kAdd (wSl (wVar 1) (wNoPart) (wPart (wVar 2))) (wSl (wVar 1) (wPart (wOp fAdd kAdd (wVar 2) (wC (.int 1)))) (wNoPart)))) (wIfS (wAndT (wT (wOp fNe kEq (wVar 3) (wDisp .list (wNil)))) (wT (wOp fEq kEq (wCall0 sp_set_of (wCons (wVar 3) (wNil))) (wCall0 sp_set_of (wCons (wVar 1) (wNil)))))) (wSeq (wSet 1 (wVar 3)) (wSet 2 (wC (.int 0)))) (wAug 2 fAdd kInts (wC (.int 1))))
theorem wh_prune {d : PyData} {R : EN Unit} {jts : List Itm} (hR : ∀ p s3, R.nx [.is (.py d), .is (.py (.list (jts.map itD))), .is (.py (.int p)), s3, .no] ()) : ∀ (n k : Nat) (its : List Itm) (i : Nat) (s3 : Sl), its.length ≤ n → its.length - i ≤ k → i ≤ its.length → its.length ≤ 400 → its.all itemOk = true → (∀ j, j < i → needP its j = false) → prunedOf its = jts →
    ∃ m, whGo prC prB R m [.is (.py d), .is (.py (.list (its.map itD))), .is (.py (.int (i : Nat))), s3, .no] () := by
  intro n
  induction n with
  | zero =>
    intro k its i s3 hn hk hi hl ok hf hp
    have e : its = [] := List.eq_nil_of_length_eq_zero (by omega)
    subst e
    subst hp
    obtain rfl : i = 0 := by simp at hi; exact hi
    refine ⟨1, ?_⟩
    have := hR 0 s3
    simp_arith! [whGo, prC, prB, List.map_nil]
    exact this
  | succ n ihn =>
    intro k
    induction k with
    | zero =>
      intro its i s3 hn hk hi hl ok hf hp
      obtain rfl : i = its.length := by omega
      have hid : idleAt its = none := List.find?_eq_none.mpr fun j hj => by
        rw [hf j (List.mem_range.mp hj)]
        decide
      rw [pruned_stop hid] at hp
      subst hp
      refine ⟨1, ?_⟩
      have := hR its.length s3
      have dl : decide (((its.length : Nat) : Int) < ((its.length : Nat) : Int)) = false := decide_eq_false (by omega)
      simp_arith! [whGo, prC, prB, List.length_map, dl]
      exact this
    | succ k ihk =>
      intro its i s3 hn hk hi hl ok hf hp
      by_cases lt : i < its.length
      · have dl : decide (((i : Nat) : Int) < ((its.length : Nat) : Int)) = true := decide_eq_true (by omega)
        have c1 : cutD (its.map itD) none (some (i : Int)) = (its.take i).map itD := by rw [cutD_take (by rw [List.length_map]; omega), List.map_take]
        have c2 : cutD (its.map itD) (some ((i : Int) + 1)) none = (its.drop (i + 1)).map itD := by
          have := cutD_drop (xs := its.map itD) (i := i + 1) (by rw [List.length_map]; omega)
          rw [Int.natCast_add] at this
          rw [List.map_drop]
          exact this
        have cl := cutI_len lt
        have sz : ((its.take i).length + (its.drop (i + 1)).length ≤ sizeLine) = True := eq_true (by
          rw [← List.length_append]
          exact le_line (by show (cutI its i).length ≤ _; omega))
        have al := all_of ok fun q hq => cutI_mem (i := i) hq
        have ec : its.take i ++ its.drop (i + 1) = cutI its i := rfl
        have up : ∀ s3, needP its i = false → ∃ m, whGo prC prB R m [.is (.py d), .is (.py (.list (its.map itD))), .is (.py (.int ((i : Nat) + 1 : Int))), s3, .no] () := fun s3 hnp => by
          have := ihk its (i + 1) s3 hn (by omega) lt hl ok (fun j hj => by
            rcases Nat.lt_succ_iff_lt_or_eq.mp hj with h | rfl
            · exact hf j h
            · exact hnp) hp
          rw [Int.natCast_add] at this
          exact this
        have npf := needP_iff (its := its) (i := i)
        cases he : (cutI its i).isEmpty with
        | true =>
          have hnp : needP its i = false := by
            cases h : needP its i with
            | false => rfl
            | true => exact absurd (List.isEmpty_iff.mp he) (npf.mp h).1
          obtain ⟨m, hm⟩ := up _ hnp
          refine ⟨m + 1, ?_⟩
          unfold whGo
          simp_arith! [prC, prB, List.length_map, dl, c1, c2, sz, ← List.map_append, ec, List.isEmpty_map, he]
          exact hm
        | false =>
          have nee : cutI its i ≠ [] := fun e => by rw [e] at he; cases he
          by_cases hq : setOf (cutI its i) = setOf its
          · have hnp : needP its i = true := npf.mpr ⟨nee, hq⟩
            have hid : idleAt its = some i := by
              unfold idleAt
              exact L2.find_range _ lt hnp fun j hj => hf j hj
            obtain ⟨m, hm⟩ := ihn (cutI its i).length (cutI its i) 0 (.is (.py (.list ((cutI its i).map itD)))) (by omega) (by omega) (by omega) (by omega) al (fun j hj => by omega) (by rw [← pruned_step hid]; exact hp)
            refine ⟨m + 1, ?_⟩
            unfold whGo
            simp_arith! [prC, prB, List.length_map, dl, c1, c2, sz, ← List.map_append, ec, List.isEmpty_map, he, sp_set_of, hq]
            exact ⟨al, by omega, ok, hl, hm⟩
          · have hnp : needP its i = false := by
              cases h : needP its i with
              | false => rfl
              | true => exact absurd (npf.mp h).2 hq
            obtain ⟨m, hm⟩ := up _ hnp
            refine ⟨m + 1, ?_⟩
            unfold whGo
            simp_arith! [prC, prB, List.length_map, dl, c1, c2, sz, ← List.map_append, ec, List.isEmpty_map, he, sp_set_of, hq]
            exact ⟨al, by omega, ok, hl, hm⟩
      · have : i = its.length := by omega
        exact ihk its i s3 hn (by omega) hi hl ok hf hp
theorem law_pruned : ∀ ds θ N Nx, sp_pruned.up ds θ N Nx → w_pruned (bodyEN N Nx) (startD 5 ds) θ := by
  rintro ds θ N Nx ⟨d, rfl, fn, n⟩
  simp_arith! [w_pruned, sp_check_text, sp_items_in]
  refine ⟨fn, ?_⟩
  cases h : itemsD d with
  | none => simp_arith! [h] at n ⊢; exact n
  | some its =>
    simp_arith! [h, optL_some] at n ⊢
    obtain ⟨hl, n⟩ := n
    have ok := items_ok h
    refine ⟨fn, ?_⟩
    refine wh_prune (jts := prunedOf its) (fun p s3 => ?_) its.length its.length its 0 .no (Nat.le_refl _) (by omega) (by omega) hl ok (fun j hj => by omega) rfl
    have pp := pruned_prn its
    have po := all_of ok fun q hq => pp.sub.subset hq
    have pl := pp.sub.length_le
    simp_arith! [and_true]
    refine lcGo_map2 itD (fun q => .str (textOf q)) _ (fun q hq T t => ?_) (le_line (by omega)) ?_
    · simp_arith! [sp_text_of]
      exact ⟨q, rfl, rfl, rfl, List.all_eq_true.mp po q hq, t⟩
    · have e : (prunedOf its).map (fun q => PyData.str (textOf q)) = ((prunedOf its).map textOf).map PyData.str := by simp
      rw [e]
      simp_arith! [and_true]
      refine ⟨fun ys hy => ?_, n⟩
      subst hy
      exact joins_ok po (by omega)
/-! ### the fewest items -/
def sp_fewest_items : Spec0 := fun ds N Nx => ∃ d, ds = [.py d] ∧ Fine d ∧ (match setD d with | some ns => N (.py (.int (fewI ns))) | none => Nx .set)
def w_fewest_items : WS MS :=
  wSeq (wDrop (wCall0 sp_check_set (wCons (wVar 0) (wNil)))) (wRet (wCall (spm_fewest 10) (wCons (wBlt fTuple kAny (wCons (wVar 0) (wNil))) (wCons (wLc (wItL (wCall0 sp_greatest_of (wCons (wVar 0) (wNil)))) (wgName 1) (wYes) (wCall0 sp_numbers_of (wCons (wVar 1) (wNil))) [1]) (wCons (wDNew) (wNil))))))
theorem law_fewest_items : ∀ ds θ N Nx, sp_fewest_items.pre ds θ N Nx → w_fewest_items (bodyEN N Nx) (startD 2 ds) θ := by
  rintro ds θ N Nx ⟨rfl, d, rfl, fn, n⟩
  simp_arith! [w_fewest_items, sp_check_set]
  refine ⟨fn, ?_⟩
  rw [isSetD_eq]
  cases h : setD d with
  | none => simp_arith! [h, Option.isSome_none] at n ⊢; exact n .pre
  | some ns =>
    obtain ⟨rfl, hs⟩ := setD_some h
    have hs' := (setI_iff.mp hs).1
    have gl : (greatestOf ns).length ≤ 1000 := by
      have h1 : (greatestOf ns).length ≤ (insideOf ns).length := List.length_filter_le _ _
      have := inside_len ns
      omega
    simp_arith! [h, Option.isSome_some, sp_greatest_of, wDNew] at n ⊢
    refine ⟨hs', ?_⟩
    refine lcGo_map2 itD fewD _ (fun q hq T t => ?_) (le_line (by omega)) ?_
    · simp_arith! [sp_numbers_of]
      exact ⟨q, rfl, rfl, rfl, (inside_iff.mp (great_inside hq)).1, t⟩
    · simp_arith! [and_true]
      exact fun d => ⟨ns, greatestOf ns, d, [], rfl, rfl, hs', subs_len hs', great_covers hs', .nil, fun m' _ => n _⟩
end RT
end
section
set_option Elab.async false
set_option linter.all false
set_option maxRecDepth 100000
set_option maxHeartbeats 8000000
namespace RT
open PySem PySem.Spec PyProof.Rows L2
local macro_rules | `(tactic| simp_arith! [$ts,*] $[$loc]?) => `(tactic| simp only [$ts,*, wCount, wIndex, wIsX, wTry, wVar, wOwn, wC, wOp, wT, wChain, wAndT, wOrT, wNotT, wAnd, wOr, wNot, wIf, wNil, wCons, wDisp, wCall, wCall0, wNoPart, wPart, wSl, wRevL, wBlt, wItL, wItT, wItS, wRg1, wRg2, wEnum, wZip, wLR, wLR2, wYes, wM1, wFmt, wJoined, wIsi, wNeg, wNewD, wOwnCat, wPar2, wNext, wSeq, wNever, wSet, wNew, wAug, wExtend, wAppend, wPut, wFrz, wRet, wRetOwn, wRetN, wDrop, wIfS, wgName, wgTup, wUnp, wRaise, bodyEN, wLc, wFor, wSortSet, e_add_i, e_add_s, e_add_l, e_add_t, e_kadd_i, e_kadd_s, e_kadd_l, e_kadd_t, e_sub, e_kt, e_mul_i, e_mul_l, e_kmul_i, e_kmul_l, e_div, e_kdiv, e_mod, e_kmod, e_cmp, e_eq, e_ne, e_keq, e_is_n, e_is_b, e_isn_n, e_isn_b, e_non_n, e_non_l, e_non_t, e_non_i, e_non_s, e_non_b, e_non_x, e_in_l, e_in_t, e_ni_l, e_ni_t, e_kin_l, e_kin_t, e_kin_s, e_ix_l, e_ix_t, e_ix_s, e_kix_l, e_kix_t, e_kix_s, e_sl_l, e_sl_t, e_sl_s, e_len_l, e_len_t, e_len_s, e_klen_l, e_klen_t, e_klen_s, e_kany, e_list_l, e_list_t, e_tup_l, e_tup_t, e_sum, e_max, e_max2, e_min, e_kne, e_kne2, e_all, e_str, e_kstr, e_int, e_kint, e_split, e_ksplit, e_part, e_kpart, e_join, e_kjoin, e_pys0, e_pys1, e_sa0, e_sa1, e_wipe0, e_wipe1, e_js0, e_js1, e_ty_i, e_ty_b, e_ty_n, e_ty_s, e_ty_l, e_ty_t, e_isi_ii, e_isi_ib, e_isi_in, e_isi_is, e_isi_il, e_isi_it, e_isi_bi, e_isi_bb, e_isi_bn, e_isi_bs, e_isi_bl, e_isi_bt, e_isi_li, e_isi_lb, e_isi_ln, e_isi_ls, e_isi_ll, e_isi_lt, e_isi_ti, e_isi_tb, e_isi_tn, e_isi_ts, e_isi_tl, e_isi_tt, e_isi_si, e_isi_sb, e_isi_sn, e_isi_ss, e_isi_sl, e_isi_st, e_up, e_st0, e_st1, e_st2, exists_eq_left, exists_eq_left', exists_eq_right, exists_eq_right', exists_eq', exists_eq, true_and, and_true, and_self, false_and, and_false, exists_and_left, exists_and_right, exists_const, Option.some.injEq, Option.map_some, Option.map_none, Sl.is.injEq, Sl.own.injEq, D.py.injEq, D.ex.injEq, D.rf.injEq, PyData.int.injEq, PyData.bool.injEq, PyData.str.injEq, PyData.list.injEq, PyData.tuple.injEq, List.cons.injEq, if_true, if_false, eq_self, Bool.false_eq_true, Bool.true_eq_false, Bool.not_true, Bool.not_false, Bool.not_not, List.getElem?_cons_zero, List.getElem?_cons_succ, List.set_cons_zero, List.set_cons_succ, List.length_cons, List.length_nil, List.cons_append, List.nil_append, reduceCtorEq, List.replicate_zero, List.replicate_succ, Nat.reduceAdd, Nat.reduceSub, decide_true, decide_false, intsOf_map', blsOf_map', strsOf_map', map_int_inj, map_str_inj, map_bool_inj, map_itD_inj, itD_iff, sh_int, sh_bool, sh_none, sh_itD, sh_nil, sh_ints, sh_its, eqv_int, eqv_bool, eqv_str, eqv_itD, eqv_ints, eqv_strs, eqv_its, eqv_nil, Nat.zero_le, and_assoc] $[$loc]?)
/-! ### a number more, a number less -/
theorem isInt_of {lo hi : Int} {e : PyData} (h : isIntD lo hi e = true) : ∃ v, e = .int v ∧ lo ≤ v ∧ v ≤ hi := by
  cases e with
  | int v => exact ⟨v, rfl, by simpa [isIntD] using h⟩
  | _ => simp [isIntD] at h
theorem union_one {a : List Int} {v : Int} (ha : a ∈ subs ten) (hv : v ∈ ten) : setL (a ++ [v]) = unionI a [v] := by
  have hs : [v] ∈ subs ten := sub_subs (List.singleton_sublist.mpr hv)
  exact union_set ha hs
def sp_with_number : Spec0 := fun ds N Nx => ∃ d e, ds = [.py d, .py e] ∧ Fine d ∧ (match setD d with
  | some a => if isIntD 1 10 e = true then ∃ v, e = .int v ∧ N (.py (.list ((unionI a [v]).map .int))) else Nx .number
  | none => Nx .set)
def w_with_number : WS Unit :=
  wSeq (wDrop (wCall0 sp_check_set (wCons (wVar 0) (wNil)))) (wSeq (wIfS (wNotT (wT (wCall0 sp_is_int (wCons (wVar 1) (wCons (wC (.int 1)) (wCons (wC (.int 10)) (wNil))))))) (wRaise .number) (wNext)) (wRet (wSortSet (wOp fAdd kAdd (wVar 0) (wDisp .list (wCons (wVar 1) (wNil)))))))
theorem law_with_number : ∀ ds θ N Nx, sp_with_number.up ds θ N Nx → w_with_number (bodyEN N Nx) (startD 2 ds) θ := by
  rintro ds θ N Nx ⟨d, e, rfl, fd, n⟩
  simp_arith! [w_with_number, sp_check_set]
  refine ⟨fd, ?_⟩
  rw [isSetD_eq]
  cases h : setD d with
  | none => simp_arith! [h, Option.isSome_none] at n ⊢; exact n
  | some a =>
    obtain ⟨rfl, hs⟩ := setD_some h
    have ha := (setI_iff.mp hs).1
    have la := subs_len ha
    simp_arith! [h, Option.isSome_some, sp_is_int] at n ⊢
    cases hv : isIntD 1 10 e with
    | false => rw [hv] at n; simp_arith! [and_true] at n ⊢; exact n
    | true =>
      rw [hv] at n
      obtain ⟨v, rfl, v1, v2⟩ := isInt_of hv
      have hvt : v ∈ ten := ten_of ⟨v1, v2⟩
      have e1 : (1 ≤ sizeLine) = True := eq_true (by decide)
      have em : a.map PyData.int ++ [.int v] = (a ++ [v]).map .int := by simp
      simp_arith! [e1, em] at n ⊢
      refine ⟨by rw [List.length_map]; exact le_line (by omega), ?_⟩
      refine ⟨by rw [List.length_append]; simp; omega, fun k hk => ?_, ?_⟩
      · have : k ∈ ten := by
          rcases List.mem_append.mp hk with h | h
          · exact subs_ten ha h
          · rw [List.mem_singleton.mp h]
            exact hvt
        have := ten_iff.mp this
        omega
      · rw [union_one ha hvt]
        exact n
def sp_without_number : Spec0 := fun ds N Nx => ∃ d e, ds = [.py d, .py e] ∧ Fine d ∧ (match setD d with
  | some a => if isIntD 1 10 e = true then ∃ v, e = .int v ∧ (if v ∈ a then (if a.length = 1 then Nx .none else N (.py (.list ((a.filter fun k => !decide (k = v)).map .int)))) else Nx .none) else Nx .number
  | none => Nx .set)
def w_without_number : WS Unit :=
  wSeq (wDrop (wCall0 sp_check_set (wCons (wVar 0) (wNil)))) (wSeq (wIfS (wNotT (wT (wCall0 sp_is_int (wCons (wVar 1) (wCons (wC (.int 1)) (wCons (wC (.int 10)) (wNil))))))) (wRaise .number) (wNext)) (wSeq (wIfS (wT (wOp fNi kIn (wVar 1) (wVar 0))) (wRaise .none) (wNext)) (wSeq (wIfS (wT (wOp fEq kEq (wBlt fLen kLen (wCons (wVar 0) (wNil))) (wC (.int 1)))) (wRaise .none) (wNext)) (wRet (wLc (wItL (wVar 0)) (wgName 2) (wT (wOp fNe kEq (wVar 2) (wVar 1))) (wVar 2) [2])))))
theorem law_without_number : ∀ ds θ N Nx, sp_without_number.up ds θ N Nx → w_without_number (bodyEN N Nx) (startD 3 ds) θ := by
  rintro ds θ N Nx ⟨d, e, rfl, fd, n⟩
  simp_arith! [w_without_number, sp_check_set]
  refine ⟨fd, ?_⟩
  rw [isSetD_eq]
  cases h : setD d with
  | none => simp_arith! [h, Option.isSome_none] at n ⊢; exact n
  | some a =>
    obtain ⟨rfl, hs⟩ := setD_some h
    have ha := (setI_iff.mp hs).1
    have la := subs_len ha
    simp_arith! [h, Option.isSome_some, sp_is_int] at n ⊢
    cases hv : isIntD 1 10 e with
    | false => rw [hv] at n; simp_arith! [and_true] at n ⊢; exact n
    | true =>
      rw [hv] at n
      obtain ⟨v, rfl, v1, v2⟩ := isInt_of hv
      simp_arith! [and_true] at n ⊢
      by_cases hm : v ∈ a
      · rw [if_pos hm] at n
        simp_arith! [any_ints, hm, List.length_map]
        by_cases l1 : a.length = 1
        · have d1 : decide (((a.length : Nat) : Int) = 1) = true := decide_eq_true (by omega)
          rw [if_pos l1] at n
          simp_arith! [d1]
          exact n
        · have d1 : decide (((a.length : Nat) : Int) = 1) = false := decide_eq_false (by omega)
          rw [if_neg l1] at n
          simp_arith! [d1]
          refine lcGo_fm2 PyData.int (fun k => !decide (k = v)) PyData.int _ (fun k hk T F t => ?_) (le_line (by omega)) ?_
          · simp_arith! [and_true]
            exact t
          · exact n
      · rw [if_neg hm] at n
        simp_arith! [any_ints, hm]
        exact n
/-! ### gains -/
def gnD (p : Int × Int) : PyData := .tuple [.int p.1, .int p.2]
def gainsOf (a : List Int) : List (Int × Int) := (othersOf a).map fun k => (k, shortI (unionI a [k]) - shortI a)
theorem sort_one {a : List Int} {v : Int} (ha : a ∈ subs ten) (hv : v ∈ ten) (hn : v ∉ a) : sortB ltI (a ++ [v]) = unionI a [v] := by
  have asc : (a ++ [v]).Nodup := List.nodup_append.mpr ⟨(subs_asc ha).imp (fun h => Int.ne_of_lt h), List.pairwise_singleton _ _, fun x hx y hy e => hn (by rw [List.mem_singleton.mp hy] at e; rw [← e]; exact hx)⟩
  have pm := sortB_perm (lt := ltI) (a ++ [v])
  have st := sortB_srtd (lt := ltI) swo_ltI (a ++ [v])
  refine asc_uniq ?_ (subs_asc (union_subs _ _)) fun k => ?_
  · refine (st.and (pm.nodup_iff.mpr asc)).imp fun {x y} h => ?_
    obtain ⟨h1, h2⟩ := h
    simp at h1
    omega
  · rw [pm.mem_iff]
    unfold unionI
    rw [List.mem_filter, List.mem_append]
    simp only [Bool.or_eq_true, decide_eq_true_eq]
    constructor
    · intro h
      refine ⟨?_, h⟩
      rcases h with h | h
      · exact subs_ten ha h
      · rw [List.mem_singleton.mp h]
        exact hv
    · exact fun h => h.2
def sp_gains : Spec0 := fun ds N Nx => ∃ d, ds = [.py d] ∧ Fine d ∧ (match setD d with
  | some a => N (.py (.list ((gainsOf a).map gnD)))
  | none => Nx .set)
def w_gains : WS Unit :=
  wSeq (wDrop (wCall0 sp_check_set (wCons (wVar 0) (wNil)))) (wSeq (wSet 1 (wCall0 sp_length_of (wCons (wVar 0) (wNil)))) (wSeq (wNew 2) (wSeq (wFor (wRg2 (wCons (wC (.int 1)) (wCons (wOp fAdd kAdd (wC (.int 10)) (wC (.int 1))) (wNil)))) (wgName 3) (wIfS (wT (wOp fNi kIn (wVar 3) (wVar 0))) (wAppend 2 (wDisp .tuple (wCons (wVar 3) (wCons (wOp fSub kTrue (wCall0 sp_length_of (wCons (wBlt fSorted kAny (wCons (wOp fAdd kAdd (wVar 0) (wDisp .list (wCons (wVar 3) (wNil)))) (wNil))) (wNil))) (wVar 1)) (wNil))))) (wNext))) (wFrz 2 (wRet (wVar 2))))))
theorem gains_len (a : List Int) : (gainsOf a).length ≤ 10 := by
  unfold gainsOf
  rw [List.length_map]
  exact List.length_filter_le _ _
theorem law_gains : ∀ ds θ N Nx, sp_gains.up ds θ N Nx → w_gains (bodyEN N Nx) (startD 4 ds) θ := by
  rintro ds θ N Nx ⟨d, rfl, fd, n⟩
  simp_arith! [w_gains, sp_check_set]
  refine ⟨fd, ?_⟩
  rw [isSetD_eq]
  cases h : setD d with
  | none => simp_arith! [h, Option.isSome_none] at n ⊢; exact n
  | some a =>
    obtain ⟨rfl, hs⟩ := setD_some h
    have ha := (setI_iff.mp hs).1
    have la := subs_len ha
    have e10 : rgD 1 (10 + 1 - 1 : Int).toNat = ten.map .int := by rw [rgD_eq]; exact congrArg (List.map PyData.int) (by decide +kernel)
    simp_arith! [h, Option.isSome_some, sp_length_of, e10] at n ⊢
    refine ⟨ha, by omega, by omega, by omega, by omega, ?_⟩
    refine forGo_inv2 PyData.int (fun (xs : List Int) (ρ : DS) (_ : Unit) => ∃ (zs : List Int) (s3 : Sl), ten = zs ++ xs ∧ ρ = [.is (.py (.list (a.map .int))), .is (.py (.int (shortI a))), .own (((zs.filter fun k => !decide (k ∈ a)).map fun k => (k, shortI (unionI a [k]) - shortI a)).map gnD), s3])
      (fun k xs ρ θ h R hR => ?_) (fun ρ θ h => ?_) _ _ _ ⟨[], .no, rfl, rfl⟩
    · obtain ⟨zs, s3, e, rfl⟩ := h
      have hk : k ∈ ten := by rw [e]; simp
      have zl : zs.length ≤ 10 := by
        have := congrArg List.length e
        simp at this
        omega
      have nx := fun ρ' s3 (h : ρ' = [.is (.py (.list (a.map .int))), .is (.py (.int (shortI a))), .own ((((zs ++ [k]).filter fun k => !decide (k ∈ a)).map fun k => (k, shortI (unionI a [k]) - shortI a)).map gnD), s3]) => hR ρ' θ ⟨zs ++ [k], s3, by rw [e]; simp, h⟩
      rw [List.filter_append] at nx
      simp_arith! [any_ints]
      by_cases hm : k ∈ a
      · simp_arith! [hm]
        exact nx _ (.is (.py (.int k))) (by simp [hm])
      · have e1 : (1 ≤ sizeLine) = True := eq_true (by decide)
        have e2 : (2 ≤ sizeLine) = True := eq_true (by decide)
        have em : a.map PyData.int ++ [.int k] = (a ++ [k]).map .int := by simp
        have so := sort_one ha hk hm
        have e3 : ((a.map PyData.int).length + 1 ≤ sizeLine) = True := eq_true (by rw [List.length_map]; exact le_line (by omega))
        have fl : ((((zs.filter fun k => !decide (k ∈ a)).map fun k => (k, shortI (unionI a [k]) - shortI a)).map gnD).length < sizeLine) = True := eq_true (by
          rw [List.length_map, List.length_map]
          have h1 := List.length_filter_le (fun k => !decide (k ∈ a)) zs
          have := le_line (n := 100) (by omega)
          omega)
        simp_arith! [hm, e1, e2, e3, em, e_sorted_i, so, sp_length_of, fl]
        refine ⟨union_subs _ _, ?_⟩
        exact nx _ (.is (.py (.int k))) (by simp [hm, gnD])
    · obtain ⟨zs, s3, e, rfl⟩ := h
      rw [List.append_nil] at e
      subst e
      simp_arith! [and_true]
      exact n
/-! ### the best number -/
def bestL (l : List (Int × Int)) : Int := ((l.filter fun p => decide (p.2 = minI (l.map (·.2)))).map (·.1)).headD 0
theorem min_mem : ∀ {l : List Int}, l ≠ [] → minI l ∈ l
  | [], h => absurd rfl h
  | n :: ns, _ => by
    rcases (foldl_min ns n).1 with h | h
    · exact List.mem_cons.mpr (.inl h)
    · exact List.mem_cons_of_mem _ h
theorem min_le : ∀ {l : List Int} {x : Int}, x ∈ l → minI l ≤ x
  | [], _, h => by cases h
  | n :: ns, x, h => by
    obtain ⟨_, h2, h3⟩ := foldl_min ns n
    rcases List.mem_cons.mp h with rfl | h
    · exact h2
    · exact h3 x h
theorem max_mem : ∀ {l : List Int}, l ≠ [] → maxI l ∈ l
  | [], h => absurd rfl h
  | n :: ns, _ => by
    rcases (foldl_max ns n).1 with h | h
    · exact List.mem_cons.mpr (.inl h)
    · exact List.mem_cons_of_mem _ h
theorem le_max : ∀ {l : List Int} {x : Int}, x ∈ l → x ≤ maxI l
  | [], _, h => by cases h
  | n :: ns, x, h => by
    obtain ⟨_, h2, h3⟩ := foldl_max ns n
    rcases List.mem_cons.mp h with rfl | h
    · exact h2
    · exact h3 x h
theorem max_uniq {l : List Int} {b : Int} (h : b ∈ l) (hb : ∀ x ∈ l, x ≤ b) : maxI l = b := by
  have h1 := le_max h
  have h2 := hb _ (max_mem (fun e => by rw [e] at h; cases h))
  omega
theorem best_get {l : List (Int × Int)} (ne : l ≠ []) : ∃ r, (l.filter fun p => decide (p.2 = minI (l.map (·.2)))).map (·.1) = bestL l :: r := by
  have hm := min_mem (l := l.map (·.2)) (by simp [ne])
  obtain ⟨p, hp, e⟩ := List.mem_map.mp hm
  have : p ∈ l.filter fun p => decide (p.2 = minI (l.map (·.2))) := List.mem_filter.mpr ⟨hp, decide_eq_true e⟩
  unfold bestL
  cases hf : l.filter fun p => decide (p.2 = minI (l.map (·.2))) with
  | nil => rw [hf] at this; cases this
  | cons q r => exact ⟨r.map (·.1), rfl⟩
def sp_best_number : Spec0 := fun ds N Nx => ∃ d, ds = [.py d] ∧ Fine d ∧ (match setD d with
  | some a => if gainsOf a = [] then Nx .none else N (.py (.int (bestL (gainsOf a))))
  | none => Nx .set)
def w_best_number : WS Unit :=
  wSeq (wDrop (wCall0 sp_check_set (wCons (wVar 0) (wNil)))) (wSeq (wSet 1 (wCall0 sp_gains (wCons (wVar 0) (wNil)))) (wSeq (wIfS (wT (wOp fEq kEq (wVar 1) (wDisp .list (wNil)))) (wRaise .none) (wNext)) (wSeq (wSet 2 (wBlt fMin kNe (wCons (wLc (wItL (wVar 1)) (wgTup [3, 4]) (wYes) (wVar 4) [3, 4]) (wNil)))) (wRet (wOp fIx kIx (wLc (wItL (wVar 1)) (wgTup [3, 4]) (wT (wOp fEq kEq (wVar 4) (wVar 2))) (wVar 3) [3, 4]) (wC (.int 0)))))))
theorem law_best_number : ∀ ds θ N Nx, sp_best_number.up ds θ N Nx → w_best_number (bodyEN N Nx) (startD 5 ds) θ := by
  rintro ds θ N Nx ⟨d, rfl, fd, n⟩
  simp_arith! [w_best_number, sp_check_set]
  refine ⟨fd, ?_⟩
  rw [isSetD_eq]
  cases h : setD d with
  | none => simp_arith! [h, Option.isSome_none] at n ⊢; exact n
  | some a =>
    obtain ⟨rfl, hs⟩ := setD_some h
    have gl := gains_len a
    have shg : SeqAt.shaped (.list ((gainsOf a).map gnD)) = true := (shp_map (k := 1) fun p _ => shp_tuple fun d hd => by
      simp at hd
      rcases hd with rfl | rfl <;> exact shp_int _).sh
    simp_arith! [h, Option.isSome_some, sp_gains, fd, shg, List.isEmpty_map] at n ⊢
    generalize gainsOf a = l at n gl ⊢
    by_cases ne : l = []
    · subst ne
      simp_arith! [List.isEmpty_nil] at n ⊢
      exact n
    · have he : l.isEmpty = false := by
        cases l with
        | nil => exact absurd rfl ne
        | cons _ _ => rfl
      rw [if_neg ne] at n
      simp_arith! [he]
      refine lcGo_map2 gnD (fun p => .int p.2) _ (fun p hp T t => ?_) (le_line (by omega)) ?_
      · simp_arith! [gnD]
        exact t
      · have em : (l.map fun p => PyData.int p.2) = (l.map (·.2)).map .int := by simp
        rw [em]
        simp_arith! [and_true]
        refine ⟨by simp [ne], ?_⟩
        refine lcGo_fm2 gnD (fun p => decide (p.2 = minI (l.map (·.2)))) (fun p => .int p.1) _ (fun p hp T F t => ?_) (le_line (by omega)) ?_
        · simp_arith! [gnD]
          exact t
        · have em2 : ((l.filter fun p => decide (p.2 = minI (l.map (·.2)))).map fun p => PyData.int p.1) = ((l.filter fun p => decide (p.2 = minI (l.map (·.2)))).map (·.1)).map .int := by simp
          obtain ⟨r, hr⟩ := best_get ne
          rw [em2, hr]
          simp_arith! [List.map_cons, atI_zero]
          exact n
/-! ### the longest item with a number -/
def lastF (a : List Int) (s : Int) : Nat → Int → Int
  | 0, l => l
  | n + 1, l => if l + s ∈ a then lastF a s n (l + s) else l
theorem lastF_props {a : List Int} (ha : a ∈ subs ten) {s : Int} (hs : 1 ≤ s) : ∀ (n : Nat) (l : Int), l ∈ a → 10 - l ≤ (n : Int) → l ≤ lastF a s n l ∧ lastF a s n l ∈ a ∧ lastF a s n l + s ∉ a ∧ (∃ j : Nat, lastF a s n l = l + s * j ∧ ∀ i : Nat, i ≤ j → l + s * i ∈ a)
  | 0, l, hl, hn => by
    have := ten_iff.mp (subs_ten ha hl)
    refine ⟨Int.le_refl _, hl, fun h => ?_, 0, by simp [lastF], fun i hi => ?_⟩
    · have := ten_iff.mp (subs_ten ha h)
      show False
      have e : lastF a s 0 l = l := rfl
      rw [e] at this
      omega
    · obtain rfl : i = 0 := by omega
      simpa using hl
  | n + 1, l, hl, hn => by
    unfold lastF
    by_cases h : l + s ∈ a
    · rw [if_pos h]
      obtain ⟨h1, h2, h3, j, h4, h5⟩ := lastF_props ha hs n (l + s) h (by omega)
      refine ⟨by omega, h2, h3, j + 1, ?_, fun i hi => ?_⟩
      · rw [h4, Int.natCast_add, Int.mul_add]
        simp
        omega
      · cases i with
        | zero => simpa using hl
        | succ i =>
          have := h5 i (by omega)
          rw [Int.natCast_add, Int.mul_add]
          simp
          rw [Int.add_assoc, Int.add_comm s] at this
          exact this
    · rw [if_neg h]
      refine ⟨Int.le_refl _, hl, h, 0, by simp, fun i hi => ?_⟩
      obtain rfl : i = 0 := by omega
      simpa using hl
def ownF (a : List Int) (f s : Int) : List Int := if lastF a s 10 f > f then numbersOf (f, lastF a s 10 f, s) else [f]
def stepB (a : List Int) (v f b s : Int) : Int := if v ∈ ownF a f s then (if ((ownF a f s).length : Int) > b then ((ownF a f s).length : Int) else b) else b
def bestF (a : List Int) (v b f : Int) : Int := (rgI 1 9).foldl (stepB a v f) b
def longF (a : List Int) (v : Int) : Int := a.foldl (bestF a v) 1
/-- items within the set that have the number -/
def lensW (a : List Int) (v : Int) : List Int := ((insideOf a).filter fun q => decide (v ∈ numbersOf q)).map fun q => ((numbersOf q).length : Int)
def longI (a : List Int) (v : Int) : Int := maxI (lensW a v)
theorem mem_numbers {q : Itm} {k : Int} : k ∈ numbersOf q ↔ k ∈ ten ∧ q.1 ≤ k ∧ k ≤ q.2.1 ∧ (k - q.1) % q.2.2 = 0 := by
  unfold numbersOf
  rw [List.mem_filter]
  simp only [Bool.and_eq_true, decide_eq_true_eq, and_assoc]
theorem own_item {a : List Int} (ha : a ∈ subs ten) {f s : Int} (hf : f ∈ a) (s1 : 1 ≤ s) (s9 : s ≤ 9) (hl : lastF a s 10 f > f) : itemOk (f, lastF a s 10 f, s) = true ∧ (f, lastF a s 10 f, s) ∈ insideOf a := by
  have ft := ten_iff.mp (subs_ten ha hf)
  obtain ⟨h1, h2, h3, j, h4, h5⟩ := lastF_props ha s1 10 f hf (by omega)
  have lt := ten_iff.mp (subs_ten ha h2)
  have ok : itemOk (f, lastF a s 10 f, s) = true := by
    have em : (lastF a s 10 f - f) % s = 0 := by
      rw [h4]
      have : f + s * (j : Int) - f = s * j := by omega
      rw [this]
      exact Int.mul_emod_right _ _
    have ne : ¬ f = lastF a s 10 f := by omega
    simp only [itemOk, Bool.and_eq_true, decide_eq_true_eq, if_neg ne]
    refine ⟨⟨⟨ft.1, ft.2⟩, ⟨lt.1, lt.2⟩, s1, by omega⟩, by omega, em⟩
  refine ⟨ok, inside_iff.mpr ⟨ok, fun k hk => ?_⟩⟩
  obtain ⟨k1, k2, k3, k4⟩ := mem_numbers.mp hk
  simp only at k2 k3 k4
  obtain ⟨i, hi⟩ : ∃ i : Nat, k - f = s * i := by
    refine ⟨((k - f) / s).toNat, ?_⟩
    have := Int.mul_ediv_add_emod (k - f) s
    rw [k4] at this
    have : 0 ≤ (k - f) / s := Int.ediv_nonneg (by omega) (by omega)
    rw [Int.toNat_of_nonneg this]
    omega
  have : k = f + s * i := by omega
  rw [this]
  refine h5 i ?_
  have hle : s * (i : Int) ≤ s * (j : Int) := by omega
  have := Int.le_of_mul_le_mul_left hle (by omega)
  omega
/-- a sublist is no longer -/
theorem numbers_mono {f l l' s : Int} (h : l ≤ l') : (numbersOf (f, l, s)).length ≤ (numbersOf (f, l', s)).length := by
  have e : numbersOf (f, l, s) = (numbersOf (f, l', s)).filter fun n => decide (n ≤ l) := by
    unfold numbersOf
    rw [List.filter_filter]
    refine List.filter_congr fun k _ => ?_
    simp only
    by_cases h1 : k ≤ l
    · have h2 : k ≤ l' := by omega
      simp [h1, h2]
    · simp [h1]
  rw [e]
  exact List.length_filter_le _ _
theorem numbers_sub {f l l' s : Int} (h : l ≤ l') {k : Int} (hk : k ∈ numbersOf (f, l, s)) : k ∈ numbersOf (f, l', s) := by
  obtain ⟨k1, k2, k3, k4⟩ := mem_numbers.mp hk
  exact mem_numbers.mpr ⟨k1, k2, by simp only at k3 ⊢; omega, k4⟩
theorem own_long {a : List Int} (ha : a ∈ subs ten) {v f s : Int} (hf : f ∈ a) (s1 : 1 ≤ s) (s9 : s ≤ 9) (hv : v ∈ ownF a f s) : ((ownF a f s).length : Int) ∈ lensW a v := by
  unfold ownF at hv ⊢
  by_cases hl : lastF a s 10 f > f
  · rw [if_pos hl] at hv ⊢
    exact List.mem_map.mpr ⟨_, List.mem_filter.mpr ⟨(own_item ha hf s1 s9 hl).2, decide_eq_true hv⟩, rfl⟩
  · rw [if_neg hl] at hv ⊢
    obtain ⟨h1, h2⟩ := one_inside ha hf
    have e : v = f := List.mem_singleton.mp hv
    exact List.mem_map.mpr ⟨oneI f, List.mem_filter.mpr ⟨h1, by rw [h2, e]; simp⟩, by rw [h2]⟩
theorem long_own {a : List Int} (ha : a ∈ subs ten) {v : Int} {q : Itm} (hq : q ∈ insideOf a) (hv : v ∈ numbersOf q) : q.1 = q.2.1 ∨ (q.1 ∈ a ∧ 1 ≤ q.2.2 ∧ q.2.2 ≤ 9 ∧ v ∈ ownF a q.1 q.2.2 ∧ (numbersOf q).length ≤ (ownF a q.1 q.2.2).length) := by
  obtain ⟨f, l, s⟩ := q
  obtain ⟨ok, hin⟩ := inside_iff.mp hq
  simp only
  by_cases e : f = l
  · exact .inl e
  · refine .inr ?_
    have ok' := ok
    simp only [itemOk, Bool.and_eq_true, decide_eq_true_eq, if_neg e] at ok'
    obtain ⟨⟨⟨f1, f2⟩, ⟨l1, l2⟩, s1, s2⟩, flt, fm⟩ := ok'
    have sle : s ≤ l - f := Int.le_of_dvd (by omega) (Int.dvd_of_emod_eq_zero fm)
    have hfa : f ∈ a := hin f (mem_numbers.mpr ⟨ten_of ⟨f1, f2⟩, Int.le_refl _, by simp only; omega, by simp⟩)
    obtain ⟨h1, h2, h3, j, h4, h5⟩ := lastF_props ha s1 10 f hfa (by omega)
    have big : l ≤ lastF a s 10 f := by
      refine Classical.byContradiction fun c => h3 ?_
      have hd : (l - lastF a s 10 f) % s = 0 := by
        have e1 : l - lastF a s 10 f = (l - f) - s * j := by omega
        rw [e1, Int.sub_emod, fm, Int.mul_emod_right]
        simp
      have := Int.le_of_dvd (by omega) (Int.dvd_of_emod_eq_zero hd)
      refine hin _ (mem_numbers.mpr ⟨ten_of ⟨by omega, by omega⟩, by simp only; omega, by simp only; omega, ?_⟩)
      simp only
      have e2 : lastF a s 10 f + s - f = s * ((j : Int) + 1) := by rw [Int.mul_add]; omega
      rw [e2]
      exact Int.mul_emod_right _ _
    have eo : ownF a f s = numbersOf (f, lastF a s 10 f, s) := if_pos (by omega)
    refine ⟨hfa, s1, by omega, ?_, ?_⟩
    · rw [eo]
      exact numbers_sub big hv
    · rw [eo]
      exact numbers_mono big
theorem stepB_ge (a : List Int) (v f : Int) : ∀ (ss : List Int) (b : Int), b ≤ ss.foldl (stepB a v f) b ∧ (∀ s ∈ ss, v ∈ ownF a f s → ((ownF a f s).length : Int) ≤ ss.foldl (stepB a v f) b) ∧ (ss.foldl (stepB a v f) b = b ∨ ∃ s ∈ ss, v ∈ ownF a f s ∧ ss.foldl (stepB a v f) b = (ownF a f s).length)
  | [], b => ⟨Int.le_refl _, nofun, .inl rfl⟩
  | s :: ss, b => by
    obtain ⟨h1, h2, h3⟩ := stepB_ge a v f ss (stepB a v f b s)
    rw [List.foldl_cons]
    have hb : b ≤ stepB a v f b s ∧ (v ∈ ownF a f s → ((ownF a f s).length : Int) ≤ stepB a v f b s) ∧ (stepB a v f b s = b ∨ (v ∈ ownF a f s ∧ stepB a v f b s = (ownF a f s).length)) := by
      unfold stepB
      split
      · rename_i hm
        split
        · exact ⟨by omega, fun _ => by omega, .inr ⟨hm, rfl⟩⟩
        · exact ⟨by omega, fun _ => by omega, .inl rfl⟩
      · rename_i hm
        exact ⟨by omega, fun h => absurd h hm, .inl rfl⟩
    refine ⟨by omega, fun s' hs hv => ?_, ?_⟩
    · rcases List.mem_cons.mp hs with rfl | hs
      · have := hb.2.1 hv
        omega
      · exact h2 s' hs hv
    · rcases h3 with h3 | ⟨s', hs', hv, e⟩
      · rcases hb.2.2 with e | ⟨hv, e⟩
        · exact .inl (by rw [h3, e])
        · exact .inr ⟨s, List.mem_cons_self, hv, by rw [h3, e]⟩
      · exact .inr ⟨s', List.mem_cons_of_mem _ hs', hv, e⟩
theorem bestF_ge (a : List Int) (v : Int) : ∀ (fs : List Int) (b : Int), b ≤ fs.foldl (bestF a v) b ∧ (∀ f ∈ fs, ∀ s ∈ rgI 1 9, v ∈ ownF a f s → ((ownF a f s).length : Int) ≤ fs.foldl (bestF a v) b) ∧ (fs.foldl (bestF a v) b = b ∨ ∃ f ∈ fs, ∃ s ∈ rgI 1 9, v ∈ ownF a f s ∧ fs.foldl (bestF a v) b = (ownF a f s).length)
  | [], b => ⟨Int.le_refl _, nofun, .inl rfl⟩
  | f :: fs, b => by
    obtain ⟨h1, h2, h3⟩ := bestF_ge a v fs (bestF a v b f)
    obtain ⟨g1, g2, g3⟩ := stepB_ge a v f (rgI 1 9) b
    have eb : bestF a v b f = (rgI 1 9).foldl (stepB a v f) b := rfl
    rw [List.foldl_cons]
    rw [← eb] at g1 g2 g3
    refine ⟨by omega, fun f' hf s hs hv => ?_, ?_⟩
    · rcases List.mem_cons.mp hf with rfl | hf
      · have := g2 s hs hv
        omega
      · exact h2 f' hf s hs hv
    · rcases h3 with h3 | ⟨f', hf', s, hs, hv, e⟩
      · rcases g3 with e | ⟨s, hs, hv, e⟩
        · exact .inl (by rw [h3, e])
        · exact .inr ⟨f, List.mem_cons_self, s, hs, hv, by rw [h3, e]⟩
      · exact .inr ⟨f', List.mem_cons_of_mem _ hf', s, hs, hv, e⟩
theorem rgi9 {s : Int} : s ∈ rgI 1 9 ↔ 1 ≤ s ∧ s ≤ 9 := by
  unfold rgI
  rw [List.mem_map]
  constructor
  · rintro ⟨i, hi, rfl⟩
    have := List.mem_range.mp hi
    omega
  · rintro ⟨h1, h2⟩
    exact ⟨(s - 1).toNat, List.mem_range.mpr (by omega), by omega⟩
theorem long_eq {a : List Int} (ha : a ∈ subs ten) {v : Int} (hv : v ∈ a) : longF a v = longI a v := by
  obtain ⟨h1, h2, h3⟩ := bestF_ge a v a 1
  have one : (1 : Int) ∈ lensW a v := by
    obtain ⟨q1, q2⟩ := one_inside ha hv
    exact List.mem_map.mpr ⟨oneI v, List.mem_filter.mpr ⟨q1, by rw [q2]; simp⟩, by rw [q2]; rfl⟩
  refine maxI_is ?_ fun y hy => ?_
  · rcases h3 with h3 | ⟨f, hf, s, hs, hvo, e⟩
    · unfold longF
      rw [h3]
      exact one
    · unfold longF
      rw [e]
      obtain ⟨s1, s9⟩ := rgi9.mp hs
      exact own_long ha hf s1 s9 hvo
  · obtain ⟨q, hq, rfl⟩ := List.mem_map.mp hy
    obtain ⟨hq1, hq2⟩ := List.mem_filter.mp hq
    rcases long_own ha hq1 (of_decide_eq_true hq2) with e | ⟨hf, s1, s9, hvo, hle⟩
    · have : (numbersOf q).length = 1 := by
        obtain ⟨f, l, s⟩ := q
        simp only at e
        subst e
        have ok := (inside_iff.mp hq1).1
        simp only [itemOk, Bool.and_eq_true, decide_eq_true_eq, if_true] at ok
        have e1 : s = 1 := by simpa using ok.2
        subst e1
        have := (one_ok f (ten_of ok.1.1)).2
        unfold oneI at this
        rw [this]
        rfl
      rw [this]
      exact h1
    · have := h2 q.1 hf q.2.2 (rgi9.mpr ⟨s1, s9⟩) hvo
      show _ ≤ a.foldl (bestF a v) 1
      omega
theorem lastF_in {a : List Int} (ha : a ∈ subs ten) {s : Int} (s1 : 1 ≤ s) {f : Int} (hf : f ∈ a) : lastF a s 10 f ∈ a := (lastF_props ha s1 10 f hf (by have := ten_iff.mp (subs_ten ha hf); omega)).2.1
theorem wh_last {a : List Int} (ha : a ∈ subs ten) {s : Int} (s1 : 1 ≤ s) {v b f : D} {s6 : Sl} {R : EN Unit} : ∀ (n : Nat) (l : Int), l ∈ a → 10 - l ≤ (n : Int) → R.nx [.is (.py (.list (a.map .int))), .is v, .is b, .is f, .is (.py (.int s)), .is (.py (.int (lastF a s n l))), s6] () →
    whGo (wT (wOp fIn kIn (wOp fAdd kAdd (wVar 5) (wVar 4)) (wVar 0))) (wAug 5 fAdd kInts (wVar 4)) R (n + 1) [.is (.py (.list (a.map .int))), .is v, .is b, .is f, .is (.py (.int s)), .is (.py (.int l)), s6] ()
  | 0, l, hl, hn, hR => by
    have nm : ¬ l + s ∈ a := fun h => by
      have := ten_iff.mp (subs_ten ha h)
      omega
    simp_arith! [whGo, any_ints, nm]
    exact hR
  | n + 1, l, hl, hn, hR => by
    unfold whGo
    simp_arith! [any_ints]
    unfold lastF at hR
    by_cases h : l + s ∈ a
    · rw [if_pos h] at hR
      simp_arith! [h]
      exact wh_last ha s1 n (l + s) h (by omega) hR
    · rw [if_neg h] at hR
      simp_arith! [h]
      exact hR
def sp_longest_with : Spec0 := fun ds N Nx => ∃ d e, ds = [.py d, .py e] ∧ Fine d ∧ (match setD d with
  | some a => if isIntD 1 10 e = true then ∃ v, e = .int v ∧ (if v ∈ a then N (.py (.int (longI a v))) else Nx .none) else Nx .number
  | none => Nx .set)
def w_longest_with : WS Unit :=
  wSeq (wDrop (wCall0 sp_check_set (wCons (wVar 0) (wNil)))) (wSeq (wIfS (wNotT (wT (wCall0 sp_is_int (wCons (wVar 1) (wCons (wC (.int 1)) (wCons (wC (.int 10)) (wNil))))))) (wRaise .number) (wNext)) (wSeq (wIfS (wT (wOp fNi kIn (wVar 1) (wVar 0))) (wRaise .none) (wNext)) (wSeq (wSet 2 (wC (.int 1))) (wSeq (wFor (wItL (wVar 0)) (wgName 3) (wFor (wRg2 (wCons (wC (.int 1)) (wCons (wC (.int 10)) (wNil)))) (wgName 4) (wSeq (wSet 5 (wVar 3)) (wSeq (wWhile (wT (wOp fIn kIn (wOp fAdd kAdd (wVar 5) (wVar 4)) (wVar 0))) (wAug 5 fAdd kInts (wVar 4))) (wSeq (wSet 6 (wIf (wT (wOp fGt kTrue (wVar 5) (wVar 3))) (wCall0 sp_numbers_of (wCons (wDisp .tuple (wCons (wVar 3) (wCons (wVar 5) (wCons (wVar 4) (wNil))))) (wNil))) (wDisp .list (wCons (wVar 3) (wNil))))) (wSet 2 (wIf (wT (wOp fIn kIn (wVar 1) (wVar 6))) (wBlt fMax kNe (wCons (wVar 2) (wCons (wBlt fLen kLen (wCons (wVar 6) (wNil))) (wNil)))) (wVar 2)))))))) (wRet (wVar 2))))))
theorem law_longest_with : ∀ ds θ N Nx, sp_longest_with.up ds θ N Nx → w_longest_with (bodyEN N Nx) (startD 7 ds) θ := by
  rintro ds θ N Nx ⟨d, e, rfl, fd, n⟩
  simp_arith! [w_longest_with, sp_check_set]
  refine ⟨fd, ?_⟩
  rw [isSetD_eq]
  cases h : setD d with
  | none => simp_arith! [h, Option.isSome_none] at n ⊢; exact n
  | some a =>
    obtain ⟨rfl, hs⟩ := setD_some h
    have ha := (setI_iff.mp hs).1
    have la := subs_len ha
    simp_arith! [h, Option.isSome_some, sp_is_int] at n ⊢
    cases hv : isIntD 1 10 e with
    | false => rw [hv] at n; simp_arith! [and_true] at n ⊢; exact n
    | true =>
      rw [hv] at n
      obtain ⟨v, rfl, v1, v2⟩ := isInt_of hv
      simp_arith! [and_true] at n ⊢
      by_cases hm : v ∈ a
      · rw [if_pos hm, ← long_eq ha hm] at n
        simp_arith! [any_ints, hm]
        refine forGo_inv2 PyData.int (fun (xs : List Int) (ρ : DS) (_ : Unit) => ∃ (zs : List Int) (s3 s4 s5 s6 : Sl), a = zs ++ xs ∧ ρ = [.is (.py (.list (a.map .int))), .is (.py (.int v)), .is (.py (.int (zs.foldl (bestF a v) 1))), s3, s4, s5, s6])
          (fun f xs ρ θ h R hR => ?_) (fun ρ θ h => ?_) _ _ _ ⟨[], .no, .no, .no, .no, rfl, rfl⟩
        · obtain ⟨zs, s3, s4, s5, s6, e, rfl⟩ := h
          have hf : f ∈ a := by rw [e]; simp
          have nx := fun ρ' s3 s4 s5 s6 (h : ρ' = [.is (.py (.list (a.map .int))), .is (.py (.int v)), .is (.py (.int ((zs ++ [f]).foldl (bestF a v) 1))), s3, s4, s5, s6]) => hR ρ' θ ⟨zs ++ [f], s3, s4, s5, s6, by rw [e]; simp, h⟩
          rw [List.foldl_append] at nx
          have e9 : rgD 1 (10 - 1 : Int).toNat = (rgI 1 9).map .int := rgD_eq 1 9
          simp_arith! [e9]
          refine ⟨by omega, by omega, by omega, by omega, ?_⟩
          generalize zs.foldl (bestF a v) 1 = b0 at nx ⊢
          refine forGo_inv2 PyData.int (fun (ss : List Int) (ρ : DS) (_ : Unit) => ∃ (us : List Int) (s4 s5 s6 : Sl), rgI 1 9 = us ++ ss ∧ ρ = [.is (.py (.list (a.map .int))), .is (.py (.int v)), .is (.py (.int (us.foldl (stepB a v f) b0))), .is (.py (.int f)), s4, s5, s6])
            (fun s ss ρ θ h R' hR' => ?_) (fun ρ θ h => ?_) _ _ _ ⟨[], s4, s5, s6, rfl, rfl⟩
          · obtain ⟨us, s4, s5, s6, e2, rfl⟩ := h
            have hs9 : s ∈ rgI 1 9 := by rw [e2]; simp
            obtain ⟨s1, s9⟩ := rgi9.mp hs9
            have nx' := fun ρ' s4 s5 s6 (h : ρ' = [.is (.py (.list (a.map .int))), .is (.py (.int v)), .is (.py (.int ((us ++ [s]).foldl (stepB a v f) b0))), .is (.py (.int f)), s4, s5, s6]) => hR' ρ' θ ⟨us ++ [s], s4, s5, s6, by rw [e2]; simp, h⟩
            rw [List.foldl_append] at nx'
            generalize us.foldl (stepB a v f) b0 = b1 at nx' ⊢
            simp_arith! [and_true]
            refine ⟨11, ?_⟩
            have ft := ten_iff.mp (subs_ten ha hf)
            refine wh_last ha s1 10 f hf (by omega) ?_
            have l3 : (3 ≤ sizeLine) = True := eq_true (by decide)
            have l1 : (1 ≤ sizeLine) = True := eq_true (by decide)
            have ef : (([s] : List Int).foldl (stepB a v f) b1) = stepB a v f b1 s := rfl
            rw [ef] at nx'
            by_cases hl : lastF a s 10 f > f
            · have d1 : decide (lastF a s 10 f > f) = true := decide_eq_true hl
              have ok := (own_item ha hf s1 s9 hl).1
              have eo : ownF a f s = numbersOf (f, lastF a s 10 f, s) := if_pos hl
              simp_arith! [d1, l3, sp_numbers_of]
              refine ⟨(f, lastF a s 10 f, s), rfl, rfl, rfl, ok, ?_⟩
              simp_arith! [any_ints, ← eo, List.length_map]
              by_cases hvo : v ∈ ownF a f s
              · simp_arith! [hvo]
                have e3 : stepB a v f b1 s = if ((ownF a f s).length : Int) > b1 then ((ownF a f s).length : Int) else b1 := if_pos hvo
                rw [e3] at nx'
                exact nx' _ _ _ _ rfl
              · simp_arith! [hvo]
                have e3 : stepB a v f b1 s = b1 := if_neg hvo
                rw [e3] at nx'
                exact nx' _ _ _ _ rfl
            · have d1 : decide (lastF a s 10 f > f) = false := decide_eq_false hl
              have eo : ownF a f s = [f] := if_neg hl
              have em : ([PyData.int f] : List PyData) = (ownF a f s).map .int := by rw [eo]; rfl
              have lo : ((ownF a f s).length ≤ sizeLine) = True := eq_true (by rw [eo]; exact of_eq_true l1)
              simp_arith! [d1, l1, em, any_ints, lo, List.length_map]
              by_cases hvo : v ∈ ownF a f s
              · simp_arith! [hvo]
                have e3 : stepB a v f b1 s = if ((ownF a f s).length : Int) > b1 then ((ownF a f s).length : Int) else b1 := if_pos hvo
                rw [e3] at nx'
                exact nx' _ _ _ _ rfl
              · simp_arith! [hvo]
                have e3 : stepB a v f b1 s = b1 := if_neg hvo
                rw [e3] at nx'
                exact nx' _ _ _ _ rfl
          · obtain ⟨us, s4, s5, s6, e2, rfl⟩ := h
            rw [List.append_nil] at e2
            rw [← e2]
            exact nx _ _ _ _ _ rfl
        · obtain ⟨zs, s3, s4, s5, s6, e, rfl⟩ := h
          rw [List.append_nil] at e
          simp_arith! [and_true]
          have : a.foldl (bestF a v) 1 = longF a v := rfl
          rw [← e, this]
          exact n
      · rw [if_neg hm] at n
        simp_arith! [any_ints, hm]
        exact n
end RT
end
section
set_option Elab.async false
set_option linter.all false
set_option maxRecDepth 100000
set_option maxHeartbeats 8000000
namespace RT
open PySem PySem.Spec PyProof.Rows L2
/-! ### what sets of items and one number more come to -/
theorem setOf_app (x y : List Itm) : setOf (x ++ y) = unionI (setOf x) (setOf y) := by
  refine asc_uniq (setOf_asc _) (List.Pairwise.filter _ ten_asc) fun k => ?_
  unfold unionI
  rw [List.mem_filter, mem_setOf]
  simp only [Bool.or_eq_true, decide_eq_true_eq, mem_setOf, List.mem_append]
  constructor
  · rintro ⟨q, h | h, hk⟩
    · exact ⟨numbersOf_ten hk, .inl ⟨q, h, hk⟩⟩
    · exact ⟨numbersOf_ten hk, .inr ⟨q, h, hk⟩⟩
  · rintro ⟨_, ⟨q, h, hk⟩ | ⟨q, h, hk⟩⟩
    · exact ⟨q, .inl h, hk⟩
    · exact ⟨q, .inr h, hk⟩
theorem mem_union {a b : List Int} (ha : a ∈ subs ten) (hb : b ∈ subs ten) {k : Int} : k ∈ unionI a b ↔ k ∈ a ∨ k ∈ b := by
  unfold unionI
  rw [List.mem_filter]
  simp only [Bool.or_eq_true, decide_eq_true_eq]
  exact ⟨fun h => h.2, fun h => ⟨h.elim (subs_ten ha) (subs_ten hb), h⟩⟩
theorem one_subs {k : Int} (h : k ∈ ten) : [k] ∈ subs ten := sub_subs (List.singleton_sublist.mpr h)
theorem mem_union1 {a : List Int} (ha : a ∈ subs ten) {v : Int} (hv : v ∈ ten) {k : Int} : k ∈ unionI a [v] ↔ k ∈ a ∨ k = v := by
  rw [mem_union ha (one_subs hv), List.mem_singleton]
theorem set_ext {a b : List Int} (ha : a ∈ subs ten) (hb : b ∈ subs ten) (h : ∀ k, k ∈ a ↔ k ∈ b) : a = b := asc_uniq (subs_asc ha) (subs_asc hb) h
theorem union_in {a : List Int} (ha : a ∈ subs ten) {v : Int} (hv : v ∈ a) : unionI a [v] = a := set_ext (union_subs _ _) ha fun k => by
  rw [mem_union1 ha (subs_ten ha hv)]
  exact ⟨fun h => h.elim id fun e => by rw [e]; exact hv, .inl⟩
theorem union_ne1 {a : List Int} (ha : a ∈ subs ten) {v : Int} (hv : v ∈ ten) : unionI a [v] ≠ [] := fun e => by
  have : v ∈ unionI a [v] := (mem_union1 ha hv).mpr (.inr rfl)
  rw [e] at this
  cases this
theorem union_len {a : List Int} (ha : a ∈ subs ten) {v : Int} (hv : v ∈ ten) (hn : v ∉ a) : (unionI a [v]).length = a.length + 1 := by
  rw [← sort_one ha hv hn, (sortB_perm (lt := ltI) (a ++ [v])).length_eq]
  simp
theorem setOf_one {k : Int} (h : k ∈ ten) : setOf [oneI k] = [k] := set_ext (setOf_subs _) (one_subs h) fun j => by
  rw [mem_setOf]
  simp only [List.mem_singleton, exists_eq_left, (one_ok k h).2]
theorem cst_one (k : Int) : cstOf (oneI k) = ((iStr k).length : Int) + 1 := by
  unfold cstOf
  rw [textOf_one]
theorem short_one {a : List Int} (ha : a ∈ subs ten) (ne : a ≠ []) {k : Int} (hk : k ∈ ten) : shortI (unionI a [k]) ≤ shortI a + 1 + ((iStr k).length : Int) := by
  obtain ⟨its, ok, ine, es, ec, ej⟩ := short_get ha ne
  have ok2 : (its ++ [oneI k]).all itemOk = true := by rw [List.all_append, ok]; simp [(one_ok k hk).1]
  have h := short_le ok2 (by simp)
  rw [setOf_app, es, setOf_one hk, joinI_cost (by simp), sumI_app] at h
  have e1 : sumI cstOf [oneI k] = cstOf (oneI k) := by show cstOf (oneI k) + 0 = _; omega
  rw [e1, cst_one] at h
  rw [joinI_cost ine] at ej
  omega
theorem few_one {a : List Int} (ha : a ∈ subs ten) {k : Int} (hk : k ∈ ten) : fewI (unionI a [k]) ≤ fewI a + 1 := by
  obtain ⟨its, ok, _, es, el⟩ := few_get ha
  have ok2 : (its ++ [oneI k]).all itemOk = true := by rw [List.all_append, ok]; simp [(one_ok k hk).1]
  have h := few_le ok2
  rw [setOf_app, es, setOf_one hk] at h
  simp at h
  omega
theorem inside_mono {a b : List Int} (h : ∀ k ∈ a, k ∈ b) {q : Itm} (hq : q ∈ insideOf a) : q ∈ insideOf b := by
  obtain ⟨h1, h2⟩ := inside_iff.mp hq
  exact inside_iff.mpr ⟨h1, fun k hk => h k (h2 k hk)⟩
theorem long_mono {a b : List Int} (ha : a ∈ subs ten) (h : ∀ k ∈ a, k ∈ b) {v : Int} (hv : v ∈ a) : longI a v ≤ longI b v := by
  have ne : lensW a v ≠ [] := by
    obtain ⟨q1, q2⟩ := one_inside ha hv
    intro e
    have : ((numbersOf (oneI v)).length : Int) ∈ lensW a v := List.mem_map.mpr ⟨oneI v, List.mem_filter.mpr ⟨q1, by rw [q2]; simp⟩, rfl⟩
    rw [e] at this
    cases this
  have hm := max_mem ne
  obtain ⟨q, hq, e⟩ := List.mem_map.mp hm
  obtain ⟨q1, q2⟩ := List.mem_filter.mp hq
  unfold longI
  rw [← e]
  exact le_max (List.mem_map.mpr ⟨q, List.mem_filter.mpr ⟨inside_mono h q1, q2⟩, rfl⟩)
theorem numbers_asc (q : Itm) : (numbersOf q).Pairwise (· < ·) := List.Pairwise.filter _ ten_asc
theorem long_bounds {a : List Int} (ha : a ∈ subs ten) {v : Int} (hv : v ∈ a) : 1 ≤ longI a v ∧ longI a v ≤ (a.length : Int) := by
  obtain ⟨q1, q2⟩ := one_inside ha hv
  have h1 : ((numbersOf (oneI v)).length : Int) ∈ lensW a v := List.mem_map.mpr ⟨oneI v, List.mem_filter.mpr ⟨q1, by rw [q2]; simp⟩, rfl⟩
  have hm := max_mem (l := lensW a v) (fun e => by rw [e] at h1; cases h1)
  refine ⟨?_, ?_⟩
  · have := le_max h1
    rw [q2] at this
    exact this
  · obtain ⟨q, hq, e⟩ := List.mem_map.mp hm
    obtain ⟨p1, _⟩ := List.mem_filter.mp hq
    have := pigeon (l := numbersOf q) (m := a) ((numbers_asc q).imp fun h => Int.ne_of_lt h) (inside_iff.mp p1).2
    unfold longI
    rw [← e]
    omega
theorem inside_lt {a : List Int} (ha : a ∈ subs ten) {v : Int} (hv : v ∈ ten) (hn : v ∉ a) : (insideOf a).length < (insideOf (unionI a [v])).length := by
  have e : insideOf a = (insideOf (unionI a [v])).filter fun q => (numbersOf q).all fun k => decide (k ∈ a) := by
    unfold insideOf
    rw [List.filter_filter]
    refine List.filter_congr fun q _ => ?_
    cases h : (numbersOf q).all fun k => decide (k ∈ a) with
    | false => rfl
    | true =>
      refine (List.all_eq_true.mpr fun k hk => ?_).symm
      exact decide_eq_true ((mem_union1 ha hv).mpr (.inl (of_decide_eq_true (List.all_eq_true.mp h k hk))))
  rw [e]
  have hs : v ∈ unionI a [v] := (mem_union1 ha hv).mpr (.inr rfl)
  obtain ⟨h1, h2⟩ := one_inside (union_subs a [v]) hs
  refine List.length_filter_lt_length_iff_exists.mpr ⟨oneI v, h1, ?_⟩
  rw [h2]
  simpa using hn
/-! the best number -/
theorem gains_mem {a : List Int} {p : Int × Int} : p ∈ gainsOf a ↔ p.1 ∈ othersOf a ∧ p.2 = shortI (unionI a [p.1]) - shortI a := by
  unfold gainsOf
  rw [List.mem_map]
  constructor
  · rintro ⟨k, hk, rfl⟩
    exact ⟨hk, rfl⟩
  · rintro ⟨h1, h2⟩
    exact ⟨p.1, h1, by rw [← h2]⟩
theorem others_mem {a : List Int} {k : Int} : k ∈ othersOf a ↔ k ∈ ten ∧ k ∉ a := by
  unfold othersOf
  rw [List.mem_filter]
  simp
theorem best_is {a : List Int} (ne : gainsOf a ≠ []) : bestL (gainsOf a) ∈ othersOf a ∧ ∀ p ∈ gainsOf a, shortI (unionI a [bestL (gainsOf a)]) - shortI a ≤ p.2 ∧ (p.2 = shortI (unionI a [bestL (gainsOf a)]) - shortI a → bestL (gainsOf a) ≤ p.1) := by
  obtain ⟨r, hr⟩ := best_get ne
  have mn := min_mem (l := (gainsOf a).map (·.2)) (by simp [ne])
  have hb : bestL (gainsOf a) ∈ ((gainsOf a).filter fun p => decide (p.2 = minI ((gainsOf a).map (·.2)))).map (·.1) := by rw [hr]; exact List.mem_cons_self
  obtain ⟨q, hq, eq⟩ := List.mem_map.mp hb
  obtain ⟨q1, q2⟩ := List.mem_filter.mp hq
  have q2 := of_decide_eq_true q2
  obtain ⟨g1, g2⟩ := gains_mem.mp q1
  rw [← eq]
  refine ⟨g1, fun p hp => ?_⟩
  rw [← g2, q2]
  refine ⟨min_le (List.mem_map.mpr ⟨p, hp, rfl⟩), fun e => ?_⟩
  have asc : (((gainsOf a).filter fun p => decide (p.2 = minI ((gainsOf a).map (·.2)))).map (·.1)).Pairwise (· < ·) := by
    have s1 : ((gainsOf a).map (·.1)).Pairwise (· < ·) := by
      have e1 : (gainsOf a).map (·.1) = othersOf a := by
        unfold gainsOf
        rw [List.map_map]
        exact List.map_id' _
      rw [e1]
      exact List.Pairwise.filter _ ten_asc
    exact List.Pairwise.sublist ((List.filter_sublist).map _) s1
  have hp' : p.1 ∈ ((gainsOf a).filter fun p => decide (p.2 = minI ((gainsOf a).map (·.2)))).map (·.1) := List.mem_map.mpr ⟨p, List.mem_filter.mpr ⟨hp, decide_eq_true e⟩, rfl⟩
  rw [hr] at asc hp'
  rw [eq]
  rcases List.mem_cons.mp hp' with h | h
  · omega
  · have := (List.pairwise_cons.mp asc).1 _ h
    omega
theorem others_sort {a : List Int} (ha : a ∈ subs ten) : sortB ltI (a ++ othersOf a) = ten := by
  have nd : (a ++ othersOf a).Nodup := List.nodup_append.mpr ⟨(subs_asc ha).imp (fun h => Int.ne_of_lt h), (List.Pairwise.filter _ ten_asc).imp (fun h => Int.ne_of_lt h), fun x hx y hy e => (others_mem.mp hy).2 (by rw [← e]; exact hx)⟩
  have pm := sortB_perm (lt := ltI) (a ++ othersOf a)
  have st := sortB_srtd (lt := ltI) swo_ltI (a ++ othersOf a)
  refine asc_uniq ((st.and (pm.nodup_iff.mpr nd)).imp fun {x y} h => ?_) ten_asc fun k => ?_
  · obtain ⟨h1, h2⟩ := h
    simp at h1
    omega
  · rw [pm.mem_iff, List.mem_append, others_mem]
    constructor
    · rintro (h | h)
      · exact subs_ten ha h
      · exact h.1
    · intro h
      by_cases hm : k ∈ a
      · exact .inl hm
      · exact .inr ⟨h, hm⟩
theorem gains_fst (a : List Int) : (gainsOf a).map (·.1) = othersOf a := by
  unfold gainsOf
  rw [List.map_map]
  exact List.map_id' _
theorem runs_set : ∀ ns ∈ subs ten, ns ≠ [] → setOf (runsOf ns) = ns ∧ (runsOf ns) ≠ [] := by decide +kernel
end RT
end
section
set_option Elab.async false
set_option linter.all false
set_option maxRecDepth 100000
set_option maxHeartbeats 8000000
namespace RT
open PySem PySem.Spec PyProof.Rows L2
/-! ### how many ways lead to shortest covers: at most 63, by a table of all sets -/
def cntF (ev : Ev) : Nat → List Int → Nat
  | _, [] => 1
  | 0, _ :: _ => 0
  | n + 1, x :: r => (ev.map fun e => if x ∈ e.2.1 ∧ e.2.2 + least ev ((x :: r).filter fun k => !decide (k ∈ e.2.1)) = least ev (x :: r) then cntF ev n ((x :: r).filter fun k => !decide (k ∈ e.2.1)) else 0).sum
theorem cntF_fuel (ev : Ev) : ∀ (n m : Nat) (l : List Int), l.length ≤ n → l.length ≤ m → cntF ev n l = cntF ev m l
  | n, m, [], _, _ => by cases n <;> cases m <;> rfl
  | 0, _, _ :: _, h, _ => by simp at h
  | _ + 1, 0, _ :: _, _, h => by simp at h
  | n + 1, m + 1, x :: r, h1, h2 => by
    simp only [List.length_cons, Nat.add_le_add_iff_right] at h1 h2
    show (ev.map _).sum = (ev.map _).sum
    congr 1
    refine List.map_congr_left fun e _ => ?_
    by_cases h : x ∈ e.2.1 ∧ e.2.2 + least ev ((x :: r).filter fun k => !decide (k ∈ e.2.1)) = least ev (x :: r)
    · have := rest_len (r := r) h.1
      rw [if_pos h, if_pos h, cntF_fuel ev n m _ (by omega) (by omega)]
    · rw [if_neg h, if_neg h]
def cnt (ev : Ev) (l : List Int) : Nat := cntF ev l.length l
theorem sum_le_sum {α : Type} (f g : α → Nat) : ∀ l : List α, (∀ x ∈ l, f x ≤ g x) → (l.map f).sum ≤ (l.map g).sum
  | [], _ => Nat.le_refl _
  | x :: l, h => by
    have h1 := h x List.mem_cons_self
    have h2 := sum_le_sum f g l fun y hy => h y (List.mem_cons_of_mem _ hy)
    simp only [List.map_cons, List.sum_cons]
    omega
theorem covers_cnt {sU : List (List Itm) → List (List Itm)} {sI : List Itm → List Itm} (hU : ∀ l, (sU l).length ≤ l.length) (ev : Ev) : ∀ (n : Nat) (l : List Int), (coversF sU sI ev n l).length ≤ cntF ev n l
  | n, [] => by cases n <;> exact Nat.le_refl _
  | 0, _ :: _ => Nat.le_refl _
  | n + 1, x :: r => by
    refine Nat.le_trans (hU _) ?_
    rw [List.length_flatMap]
    refine sum_le_sum _ _ ev fun e _ => ?_
    by_cases h : x ∈ e.2.1 ∧ e.2.2 + least ev ((x :: r).filter fun k => !decide (k ∈ e.2.1)) = least ev (x :: r)
    · rw [if_pos h, if_pos h, List.length_map]
      exact covers_cnt hU ev n _
    · rw [if_neg h, if_neg h]
      exact Nat.le_refl _
/-- the list handed to set() -/
theorem found_cnt {sU : List (List Itm) → List (List Itm)} {sI : List Itm → List Itm} (hU : ∀ l, (sU l).length ≤ l.length) (ev : Ev) (n : Nat) (x : Int) (r : List Int) :
    ((ev.flatMap fun e => if x ∈ e.2.1 ∧ e.2.2 + least ev ((x :: r).filter fun k => !decide (k ∈ e.2.1)) = least ev (x :: r) then (coversF sU sI ev n ((x :: r).filter fun k => !decide (k ∈ e.2.1))).map fun t => sI (e.1 :: t) else [])).length ≤ cntF ev (n + 1) (x :: r) := by
  rw [List.length_flatMap]
  refine sum_le_sum _ _ ev fun e _ => ?_
  by_cases h : x ∈ e.2.1 ∧ e.2.2 + least ev ((x :: r).filter fun k => !decide (k ∈ e.2.1)) = least ev (x :: r)
  · rw [if_pos h, if_pos h, List.length_map]
    exact covers_cnt hU ev n _
  · rw [if_neg h, if_neg h]
    exact Nat.le_refl _
/-! the table -/
def tabN : List (Nat × Nat) := [(1, 2), (3, 4), (7, 4), (5, 6), (15, 4), (9, 6), (31, 4), (21, 6), (17, 6), (63, 4), (33, 6), (127, 4), (85, 6), (73, 6), (65, 6), (255, 4), (129, 6), (511, 4), (341, 6), (273, 6), (257, 6), (1023, 5), (585, 7), (513, 7), (2, 2), (6, 4), (14, 4), (10, 6), (30, 4), (18, 6), (62, 4), (42, 6), (34, 6), (126, 4), (66, 6), (254, 4), (170, 6), (146, 6), (130, 6), (510, 4), (258, 6), (1022, 5), (682, 7), (546, 7), (514, 7), (4, 2), (12, 4), (28, 4), (20, 6), (60, 4), (36, 6), (124, 4), (84, 6), (68, 6), (252, 4), (132, 6), (508, 4), (340, 6), (292, 6), (260, 6), (1020, 5), (516, 7), (8, 2), (24, 4), (56, 4), (40, 6), (120, 4), (72, 6), (248, 4), (168, 6), (136, 6), (504, 4), (264, 6), (1016, 5), (680, 7), (584, 7), (520, 7), (16, 2), (48, 4), (112, 4), (80, 6), (240, 4), (144, 6), (496, 4), (336, 6), (272, 6), (1008, 5), (528, 7), (32, 2), (96, 4), (224, 4), (160, 6), (480, 4), (288, 6), (992, 5), (672, 7), (544, 7), (64, 2), (192, 4), (448, 4), (320, 6), (960, 5), (576, 7), (128, 2), (384, 4), (896, 5), (640, 7), (256, 2), (768, 5), (512, 3)]
def bitL : List Int → Nat
  | [] => 0
  | k :: r => Nat.lor (Nat.shiftLeft 1 (Nat.pred k.toNat)) (bitL r)
def subsD : List Int → List (List Int)
  | [] => [[]]
  | y :: ys => subsD ys ++ (subsD ys).map (· ++ [y])
def entT (T k : Nat) : Nat := Nat.land (Nat.shiftRight T (Nat.mul 16 k)) 65535
noncomputable def foldT (T m : Nat) (I : List (Nat × Nat)) : Nat → Nat → Nat :=
  List.rec (motive := fun _ => Nat → Nat → Nat) (fun b n => Nat.add b (Nat.mul 256 n)) (fun p _ k b n =>
    (fun e => (fun w => bif Nat.ble (Nat.succ w) b then k w (Nat.shiftRight e 8) else bif Nat.beq w b then k b (Nat.add n (Nat.shiftRight e 8)) else k b n) (Nat.add p.2 (Nat.land e 255)))
      (Nat.land (Nat.shiftRight T (Nat.mul 16 (Nat.xor m (Nat.land m p.1)))) 65535)) I
noncomputable def runT (J : List (Nat × Nat)) : List (List Int) → Nat → Bool
  | [], _ => true
  | [] :: r, T => runT J r T
  | (x :: l) :: r, T =>
    (fun m => (fun e => Nat.ble e 16383 && runT J r (Nat.add T (Nat.shiftLeft e (Nat.mul 16 m)))) (foldT T m (J.filter fun p => Nat.testBit p.1 (Nat.pred x.toNat)) 99 0)) (bitL (x :: l))
noncomputable def okN (ns : List Int) : Bool := runT (tabN.filter fun p => Nat.beq (Nat.land p.1 (bitL ns)) p.1) (subsD ns.reverse) 256
/-! one item's turn -/
def accN : List (Nat × Nat) → Nat → Nat → Nat × Nat
  | [], b, n => (b, n)
  | p :: r, b, n => if p.1 < b then accN r p.1 p.2 else if p.1 = b then accN r b (n + p.2) else accN r b n
theorem accN_spec : ∀ (l : List (Nat × Nat)) (b n : Nat), (accN l b n).1 ≤ b ∧ (∀ p ∈ l, (accN l b n).1 ≤ p.1) ∧ ((accN l b n).1 = b ∨ ∃ p ∈ l, p.1 = (accN l b n).1) ∧
    (accN l b n).2 = (if (accN l b n).1 = b then n else 0) + (l.map fun p => if p.1 = (accN l b n).1 then p.2 else 0).sum
  | [], b, n => by simp [accN]
  | p :: r, b, n => by
    unfold accN
    by_cases h1 : p.1 < b
    · rw [if_pos h1]
      obtain ⟨a1, a2, a3, a4⟩ := accN_spec r p.1 p.2
      refine ⟨by omega, fun q hq => ?_, ?_, ?_⟩
      · rcases List.mem_cons.mp hq with rfl | hq
        · exact a1
        · exact a2 q hq
      · rcases a3 with h | ⟨q, hq, e⟩
        · exact .inr ⟨p, List.mem_cons_self, h.symm⟩
        · exact .inr ⟨q, List.mem_cons_of_mem _ hq, e⟩
      · rw [if_neg (by omega), List.map_cons, List.sum_cons, a4]
        by_cases h : (accN r p.1 p.2).1 = p.1
        · rw [if_pos h, if_pos h.symm]
          omega
        · rw [if_neg h, if_neg (fun e => h e.symm)]
          omega
    · rw [if_neg h1]
      by_cases h2 : p.1 = b
      · rw [if_pos h2]
        obtain ⟨a1, a2, a3, a4⟩ := accN_spec r b (n + p.2)
        refine ⟨a1, fun q hq => ?_, ?_, ?_⟩
        · rcases List.mem_cons.mp hq with rfl | hq
          · omega
          · exact a2 q hq
        · rcases a3 with h | ⟨q, hq, e⟩
          · exact .inl h
          · exact .inr ⟨q, List.mem_cons_of_mem _ hq, e⟩
        · rw [List.map_cons, List.sum_cons, a4]
          by_cases h : (accN r b (n + p.2)).1 = b
          · rw [if_pos h, if_pos h, if_pos (by omega)]
            omega
          · rw [if_neg h, if_neg h, if_neg (by omega)]
            omega
      · rw [if_neg h2]
        obtain ⟨a1, a2, a3, a4⟩ := accN_spec r b n
        refine ⟨a1, fun q hq => ?_, ?_, ?_⟩
        · rcases List.mem_cons.mp hq with rfl | hq
          · omega
          · exact a2 q hq
        · rcases a3 with h | ⟨q, hq, e⟩
          · exact .inl h
          · exact .inr ⟨q, List.mem_cons_of_mem _ hq, e⟩
        · have hne : ¬ p.1 = (accN r b n).1 := by omega
          rw [List.map_cons, List.sum_cons, if_neg hne]
          omega
theorem land_255 (e : Nat) : Nat.land e 255 = e % 256 := Nat.and_two_pow_sub_one_eq_mod e 8
theorem shr_8 (e : Nat) : Nat.shiftRight e 8 = e / 256 := Nat.shiftRight_eq_div_pow e 8
theorem entT_eq (T k : Nat) : entT T k = T / 2 ^ (16 * k) % 65536 := by
  unfold entT
  have h := Nat.and_two_pow_sub_one_eq_mod (T >>> (16 * k)) 16
  rw [Nat.shiftRight_eq_div_pow] at h
  exact (Nat.and_two_pow_sub_one_eq_mod (Nat.shiftRight T (16 * k)) 16).trans (by rw [show Nat.shiftRight T (16 * k) = T / 2 ^ (16 * k) from Nat.shiftRight_eq_div_pow T (16 * k)])
theorem foldT_cons (T m : Nat) (p : Nat × Nat) (I : List (Nat × Nat)) (b n : Nat) : foldT T m (p :: I) b n = bif Nat.ble (Nat.succ (Nat.add p.2 (Nat.land (entT T (Nat.xor m (Nat.land m p.1))) 255))) b then foldT T m I (Nat.add p.2 (Nat.land (entT T (Nat.xor m (Nat.land m p.1))) 255)) (Nat.shiftRight (entT T (Nat.xor m (Nat.land m p.1))) 8)
    else bif Nat.beq (Nat.add p.2 (Nat.land (entT T (Nat.xor m (Nat.land m p.1))) 255)) b then foldT T m I b (Nat.add n (Nat.shiftRight (entT T (Nat.xor m (Nat.land m p.1))) 8)) else foldT T m I b n := rfl
def turnP (T m : Nat) (p : Nat × Nat) : Nat × Nat := (p.2 + entT T (Nat.xor m (Nat.land m p.1)) % 256, entT T (Nat.xor m (Nat.land m p.1)) / 256)
theorem foldT_acc (T m : Nat) : ∀ (I : List (Nat × Nat)) (b n : Nat), foldT T m I b n = (accN (I.map (turnP T m)) b n).1 + 256 * (accN (I.map (turnP T m)) b n).2
  | [], b, n => rfl
  | p :: I, b, n => by
    rw [foldT_cons, land_255, shr_8, List.map_cons]
    unfold accN
    have e1 : Nat.add p.2 (entT T (Nat.xor m (Nat.land m p.1)) % 256) = (turnP T m p).1 := rfl
    have e2 : entT T (Nat.xor m (Nat.land m p.1)) / 256 = (turnP T m p).2 := rfl
    rw [e1, e2]
    by_cases h1 : (turnP T m p).1 < b
    · have hb : Nat.ble (Nat.succ (turnP T m p).1) b = true := Nat.ble_eq.mpr h1
      rw [if_pos h1, hb]
      exact foldT_acc T m I _ _
    · have hb : Nat.ble (Nat.succ (turnP T m p).1) b = false := Bool.eq_false_iff.mpr fun h => h1 (Nat.ble_eq.mp h)
      rw [if_neg h1, hb]
      by_cases h2 : (turnP T m p).1 = b
      · have hc : Nat.beq (turnP T m p).1 b = true := Nat.beq_eq.mpr h2
        rw [if_pos h2, hc]
        exact foldT_acc T m I _ _
      · have hc : Nat.beq (turnP T m p).1 b = false := Bool.eq_false_iff.mpr fun h => h2 (Nat.beq_eq.mp h)
        rw [if_neg h2, hc]
        exact foldT_acc T m I _ _
/-! bits -/
theorem bitL_test : ∀ (l : List Int) (i : Nat), (∀ k ∈ l, 1 ≤ k) → (bitL l).testBit i = decide (((i : Int) + 1) ∈ l)
  | [], i, _ => by simp [bitL]
  | k :: r, i, h => by
    have ih := bitL_test r i fun j hj => h j (List.mem_cons_of_mem _ hj)
    have hk := h k List.mem_cons_self
    show (Nat.lor (Nat.shiftLeft 1 (Nat.pred k.toNat)) (bitL r)).testBit i = _
    have e1 : Nat.shiftLeft 1 (Nat.pred k.toNat) = 2 ^ (k.toNat - 1) := Nat.one_shiftLeft _
    have e2 : (Nat.lor (2 ^ (k.toNat - 1)) (bitL r)).testBit i = ((2 ^ (k.toNat - 1)).testBit i || (bitL r).testBit i) := Nat.testBit_or _ _ _
    rw [e1, e2, ih, Nat.testBit_two_pow]
    by_cases e : k.toNat - 1 = i
    · have : ((i : Int) + 1) = k := by omega
      simp [e, this]
    · have : ¬ ((i : Int) + 1) = k := by omega
      simp [e, this]
theorem pos_of {l : List Int} (h : ∀ k ∈ l, k ∈ ten) : ∀ k ∈ l, 1 ≤ k := fun k hk => (ten_iff.mp (h k hk)).1
theorem bitL_rest {l own : List Int} (h : ∀ k ∈ l, k ∈ ten) (ho : ∀ k ∈ own, k ∈ ten) : Nat.xor (bitL l) (Nat.land (bitL l) (bitL own)) = bitL (l.filter fun k => !decide (k ∈ own)) := by
  refine Nat.eq_of_testBit_eq fun i => ?_
  have e1 : (Nat.xor (bitL l) (Nat.land (bitL l) (bitL own))).testBit i = ((bitL l).testBit i != ((bitL l).testBit i && (bitL own).testBit i)) := by
    have := Nat.testBit_xor (bitL l) (bitL l &&& bitL own) i
    rw [Nat.testBit_and] at this
    exact this
  rw [e1, bitL_test l i (pos_of h), bitL_test own i (pos_of ho), bitL_test _ i (pos_of fun k hk => h k (List.mem_filter.mp hk).1)]
  by_cases a : ((i : Int) + 1) ∈ l <;> by_cases b : ((i : Int) + 1) ∈ own <;> simp [a, b]
theorem bitL_sub {own ns : List Int} (ho : ∀ k ∈ own, k ∈ ten) (hn : ∀ k ∈ ns, k ∈ ten) : Nat.beq (Nat.land (bitL own) (bitL ns)) (bitL own) = own.all fun k => decide (k ∈ ns) := by
  rw [Bool.eq_iff_iff, List.all_eq_true]
  have ht : ∀ i, (Nat.land (bitL own) (bitL ns)).testBit i = ((bitL own).testBit i && (bitL ns).testBit i) := fun i => Nat.testBit_and _ _ _
  constructor
  · intro h k hk
    have e := Nat.eq_of_beq_eq_true h
    have k1 := ten_iff.mp (ho k hk)
    have := congrArg (fun z => z.testBit (k.toNat - 1)) e
    simp only [ht] at this
    rw [bitL_test own _ (pos_of ho), bitL_test ns _ (pos_of hn)] at this
    have ek : (((k.toNat - 1 : Nat) : Int) + 1) = k := by omega
    rw [ek, decide_eq_true hk] at this
    simpa using this
  · intro h
    refine Nat.beq_eq.mpr (Nat.eq_of_testBit_eq fun i => ?_)
    rw [ht, bitL_test own _ (pos_of ho), bitL_test ns _ (pos_of hn)]
    by_cases a : ((i : Int) + 1) ∈ own
    · have := h _ a
      rw [this]
      simp
    · simp [a]
theorem bitL_inj {a b : List Int} (ha : a ∈ subs ten) (hb : b ∈ subs ten) (h : bitL a = bitL b) : a = b := set_ext ha hb fun k => by
  have t : ∀ k ∈ ten, (k ∈ a ↔ k ∈ b) := fun k hk => by
    have k1 := ten_iff.mp hk
    have ek : (((k.toNat - 1 : Nat) : Int) + 1) = k := by omega
    have := congrArg (fun z => z.testBit (k.toNat - 1)) h
    simp only [bitL_test a _ (pos_of fun j => subs_ten ha), bitL_test b _ (pos_of fun j => subs_ten hb), ek] at this
    exact decide_eq_decide.mp this
  exact ⟨fun h => (t k (subs_ten ha h)).mp h, fun h => (t k (subs_ten hb h)).mpr h⟩
end RT
end
section
set_option Elab.async false
set_option linter.all false
set_option maxRecDepth 100000
set_option maxHeartbeats 8000000
namespace RT
open PySem PySem.Spec PyProof.Rows L2
theorem tab_eq : tabN = itemsAll.map fun q => (bitL (numbersOf q), (cstOf q).toNat) := by decide +kernel
theorem cst_one_le : ∀ k ∈ ten, cstOf (oneI k) ≤ 3 := by decide +kernel
theorem ones_cost : ∀ {l : List Int}, (∀ k ∈ l, k ∈ ten) → sumI cstOf (l.map oneI) ≤ 3 * (l.length : Int)
  | [], _ => Int.le_refl _
  | k :: r, h => by
    have h1 := cst_one_le k (h k List.mem_cons_self)
    have h2 := ones_cost (l := r) fun j hj => h j (List.mem_cons_of_mem _ hj)
    show cstOf (oneI k) + sumI cstOf (r.map oneI) ≤ 3 * ((r.length + 1 : Nat) : Int)
    omega
theorem least_bound {ns left : List Int} (hs : ns ∈ subs ten) (hl : ∀ k ∈ left, k ∈ ns) : 0 ≤ least (weigh (insideOf ns)) left ∧ least (weigh (insideOf ns)) left ≤ 3 * (left.length : Int) := by
  have hc : ∀ q, 0 ≤ cstOf q := fun q => Int.le_of_lt (cst_pos q)
  obtain ⟨t, _, _, t3, _⟩ := least_get (cst := cstOf) (nb := numbersOf) (its := insideOf ns) _ left (Nat.le_refl _) (fun k hk => inside_cov hs k (hl k hk))
  refine ⟨?_, ?_⟩
  · show 0 ≤ least (wgh numbersOf cstOf (insideOf ns)) left
    rw [← t3]
    exact sumI_nonneg hc t
  · have h := least_le (cst := cstOf) (nb := numbersOf) hc (its := insideOf ns) _ left (left.map oneI) (Nat.le_refl _) (fun q hq => by
      obtain ⟨k, hk, rfl⟩ := List.mem_map.mp hq
      exact (one_inside hs (hl k hk)).1) (fun k hk => ⟨oneI k, List.mem_map.mpr ⟨k, hk, rfl⟩, by rw [(one_inside hs (hl k hk)).2]; exact List.mem_singleton_self _⟩)
    exact Int.le_trans h (ones_cost fun k hk => subs_ten hs (hl k hk))
theorem cnt_cons (ev : Ev) (x : Int) (r : List Int) : cnt ev (x :: r) = (ev.map fun e => if x ∈ e.2.1 ∧ e.2.2 + least ev ((x :: r).filter fun k => !decide (k ∈ e.2.1)) = least ev (x :: r) then cnt ev ((x :: r).filter fun k => !decide (k ∈ e.2.1)) else 0).sum := by
  show (ev.map _).sum = _
  congr 1
  refine List.map_congr_left fun e _ => ?_
  by_cases h : x ∈ e.2.1 ∧ e.2.2 + least ev ((x :: r).filter fun k => !decide (k ∈ e.2.1)) = least ev (x :: r)
  · have := rest_len (r := r) h.1
    rw [if_pos h, if_pos h]
    exact cntF_fuel ev r.length _ _ this (Nat.le_refl _)
  · rw [if_neg h, if_neg h]
theorem sum_filter {α : Type} (p : α → Bool) (f : α → Nat) : ∀ l : List α, ((l.filter p).map f).sum = (l.map fun a => if p a = true then f a else 0).sum
  | [] => rfl
  | a :: l => by
    have ih := sum_filter p f l
    cases h : p a with
    | true =>
      rw [List.filter_cons_of_pos h, List.map_cons, List.sum_cons, List.map_cons, List.sum_cons, ih, h, if_pos rfl]
    | false =>
      rw [List.filter_cons_of_neg (by simp [h]), List.map_cons, List.sum_cons, ih, h, if_neg (by decide), Nat.zero_add]
/-- the table has all subsets whose bits are below M -/
structure TabG (ns : List Int) (T M : Nat) : Prop where
  lt : T < 2 ^ (16 * M)
  at_ : ∀ l ∈ subs ten, (∀ k ∈ l, k ∈ ns) → bitL l < M → entT T (bitL l) = (least (weigh (insideOf ns)) l).toNat + 256 * cnt (weigh (insideOf ns)) l
theorem turn_at {ns : List Int} (hs : ns ∈ subs ten) {T M : Nat} (G : TabG ns T M) {left : List Int} (hl : left ∈ subs ten) (hn : ∀ k ∈ left, k ∈ ns) {q : Itm} (hq : q ∈ insideOf ns) (hlt : bitL (left.filter fun k => !decide (k ∈ numbersOf q)) < M) :
    turnP T (bitL left) (bitL (numbersOf q), (cstOf q).toNat) = ((cstOf q).toNat + (least (weigh (insideOf ns)) (left.filter fun k => !decide (k ∈ numbersOf q))).toNat, cnt (weigh (insideOf ns)) (left.filter fun k => !decide (k ∈ numbersOf q))) := by
  have hr := sub_filter hl fun k => !decide (k ∈ numbersOf q)
  have hrn : ∀ k ∈ (left.filter fun k => !decide (k ∈ numbersOf q)), k ∈ ns := fun k hk => hn k (List.mem_filter.mp hk).1
  have e := G.at_ _ hr hrn hlt
  obtain ⟨b1, b2⟩ := least_bound hs hrn
  have l10 := subs_len hr
  unfold turnP
  simp only
  rw [bitL_rest (fun k hk => subs_ten hl hk) (fun k hk => numbersOf_ten hk), e]
  have h1 : ((least (weigh (insideOf ns)) (left.filter fun k => !decide (k ∈ numbersOf q))).toNat + 256 * cnt (weigh (insideOf ns)) (left.filter fun k => !decide (k ∈ numbersOf q))) % 256 = (least (weigh (insideOf ns)) (left.filter fun k => !decide (k ∈ numbersOf q))).toNat := by omega
  have h2 : ((least (weigh (insideOf ns)) (left.filter fun k => !decide (k ∈ numbersOf q))).toNat + 256 * cnt (weigh (insideOf ns)) (left.filter fun k => !decide (k ∈ numbersOf q))) / 256 = cnt (weigh (insideOf ns)) (left.filter fun k => !decide (k ∈ numbersOf q)) := by omega
  rw [h1, h2]
theorem items_tab {ns : List Int} (hs : ns ∈ subs ten) {x : Int} (hx : x ∈ ten) : (tabN.filter fun p => Nat.beq (Nat.land p.1 (bitL ns)) p.1).filter (fun p => Nat.testBit p.1 (Nat.pred x.toNat)) = ((insideOf ns).filter fun q => decide (x ∈ numbersOf q)).map fun q => (bitL (numbersOf q), (cstOf q).toNat) := by
  rw [tab_eq, List.filter_map, List.filter_map]
  have e1 : itemsAll.filter ((fun p : Nat × Nat => Nat.beq (Nat.land p.1 (bitL ns)) p.1) ∘ fun q => (bitL (numbersOf q), (cstOf q).toNat)) = insideOf ns := by
    unfold insideOf
    refine List.filter_congr fun q _ => ?_
    exact bitL_sub (fun k hk => numbersOf_ten hk) (fun k hk => subs_ten hs hk)
  rw [e1]
  congr 1
  refine List.filter_congr fun q _ => ?_
  have x1 := ten_iff.mp hx
  have ex : (((Nat.pred x.toNat : Nat) : Int) + 1) = x := by
    have : Nat.pred x.toNat = x.toNat - 1 := rfl
    omega
  show (bitL (numbersOf q)).testBit (Nat.pred x.toNat) = _
  rw [bitL_test _ _ (pos_of fun k hk => numbersOf_ten hk), ex]
theorem fold_at {ns : List Int} (hs : ns ∈ subs ten) {T M : Nat} (G : TabG ns T M) {x : Int} {r : List Int} (hl : (x :: r) ∈ subs ten) (hn : ∀ k ∈ x :: r, k ∈ ns) (hlt : ∀ q ∈ insideOf ns, x ∈ numbersOf q → bitL ((x :: r).filter fun k => !decide (k ∈ numbersOf q)) < M) :
    foldT T (bitL (x :: r)) ((tabN.filter fun p => Nat.beq (Nat.land p.1 (bitL ns)) p.1).filter fun p => Nat.testBit p.1 (Nat.pred x.toNat)) 99 0 = (least (weigh (insideOf ns)) (x :: r)).toNat + 256 * cnt (weigh (insideOf ns)) (x :: r) := by
  have hx : x ∈ ten := subs_ten hl List.mem_cons_self
  have hc : ∀ q, 0 < cstOf q := cst_pos
  obtain ⟨b1, b2⟩ := least_bound hs hn
  have l10 := subs_len hl
  have rb : ∀ q, 0 ≤ least (weigh (insideOf ns)) ((x :: r).filter fun k => !decide (k ∈ numbersOf q)) := fun q => (least_bound hs fun k hk => hn k (List.mem_filter.mp hk).1).1
  rw [foldT_acc, items_tab hs hx, List.map_map]
  have em : ((insideOf ns).filter fun q => decide (x ∈ numbersOf q)).map (turnP T (bitL (x :: r)) ∘ fun q => (bitL (numbersOf q), (cstOf q).toNat)) = ((insideOf ns).filter fun q => decide (x ∈ numbersOf q)).map fun q => ((cstOf q).toNat + (least (weigh (insideOf ns)) ((x :: r).filter fun k => !decide (k ∈ numbersOf q))).toNat, cnt (weigh (insideOf ns)) ((x :: r).filter fun k => !decide (k ∈ numbersOf q))) := by
    refine List.map_congr_left fun q hq => ?_
    obtain ⟨q1, q2⟩ := List.mem_filter.mp hq
    exact turn_at hs G hl hn q1 (hlt q q1 (of_decide_eq_true q2))
  rw [em]
  obtain ⟨a1, a2, a3, a4⟩ := accN_spec (((insideOf ns).filter fun q => decide (x ∈ numbersOf q)).map fun q => ((cstOf q).toNat + (least (weigh (insideOf ns)) ((x :: r).filter fun k => !decide (k ∈ numbersOf q))).toNat, cnt (weigh (insideOf ns)) ((x :: r).filter fun k => !decide (k ∈ numbersOf q)))) 99 0
  generalize hA : accN (((insideOf ns).filter fun q => decide (x ∈ numbersOf q)).map fun q => ((cstOf q).toNat + (least (weigh (insideOf ns)) ((x :: r).filter fun k => !decide (k ∈ numbersOf q))).toNat, cnt (weigh (insideOf ns)) ((x :: r).filter fun k => !decide (k ∈ numbersOf q)))) 99 0 = A at a1 a2 a3 a4 ⊢
  have low : ∀ q ∈ insideOf ns, x ∈ numbersOf q → least (weigh (insideOf ns)) (x :: r) ≤ cstOf q + least (weigh (insideOf ns)) ((x :: r).filter fun k => !decide (k ∈ numbersOf q)) := fun q hq hxq => least_step (weigh (insideOf ns)) (x := x) (r := r) (e := (q, numbersOf q, cstOf q)) (List.mem_map.mpr ⟨q, hq, rfl⟩) hxq
  obtain ⟨e0, he0, hx0, hv0⟩ := least_pick (weigh (insideOf ns)) (x := x) (r := r) (weigh_cov (inside_cov hs) x (hn x List.mem_cons_self))
  obtain ⟨q0, hq0, rfl⟩ := List.mem_map.mp he0
  simp only at hx0 hv0
  have m0 := a2 _ (List.mem_map.mpr ⟨q0, List.mem_filter.mpr ⟨hq0, decide_eq_true hx0⟩, rfl⟩)
  simp only at m0
  have p0 := hc q0
  have r0 := rb q0
  have eA : A.1 = (least (weigh (insideOf ns)) (x :: r)).toNat := by
    rcases a3 with h | ⟨p, hp, e⟩
    · simp only [List.length_cons] at b2 l10
      omega
    · obtain ⟨q, hq, rfl⟩ := List.mem_map.mp hp
      obtain ⟨q1, q2⟩ := List.mem_filter.mp hq
      have := low q q1 (of_decide_eq_true q2)
      have p1 := hc q
      have r1 := rb q
      simp only at e
      omega
  have n99 : ¬ A.1 = 99 := by
    simp only [List.length_cons] at b2 l10
    omega
  rw [if_neg n99, Nat.zero_add, List.map_map, sum_filter] at a4
  rw [eA, a4, cnt_cons]
  have em2 : ∀ F : Itm × List Int × Int → Nat, (weigh (insideOf ns)).map F = (insideOf ns).map fun q => F (q, numbersOf q, cstOf q) := fun F => by
    unfold weigh wgh
    rw [List.map_map]
    rfl
  rw [em2]
  congr 3
  refine List.map_congr_left fun q hq => ?_
  simp only [Function.comp]
  have p1 := hc q
  have r1 := rb q
  by_cases hxq : x ∈ numbersOf q
  · rw [if_pos (decide_eq_true hxq), eA]
    have lo := low q hq hxq
    by_cases e : cstOf q + least (weigh (insideOf ns)) ((x :: r).filter fun k => !decide (k ∈ numbersOf q)) = least (weigh (insideOf ns)) (x :: r)
    · rw [if_pos (by omega)]
      exact (if_pos ⟨hxq, e⟩).symm
    · rw [if_neg (by omega)]
      exact (if_neg (fun h => e h.2)).symm
  · rw [if_neg (by simp [hxq])]
    exact (if_neg (fun h => hxq h.1)).symm
theorem ent_add {T m e k : Nat} (hk : k < m) : entT (T + e * 2 ^ (16 * m)) k = entT T k := by
  rw [entT_eq, entT_eq]
  have h1 : e * 2 ^ (16 * m) = 2 ^ (16 * k) * (65536 * (e * 2 ^ (16 * (m - k - 1)))) := by
    have : 16 * m = 16 * k + (16 + 16 * (m - k - 1)) := by omega
    rw [this, Nat.pow_add, Nat.pow_add]
    have h16 : (2 : Nat) ^ 16 = 65536 := by decide
    rw [h16]
    ac_rfl
  rw [h1, Nat.add_mul_div_left _ _ (Nat.two_pow_pos _), Nat.add_mul_mod_self_left]
theorem ent_new {T m e : Nat} (hT : T < 2 ^ (16 * m)) (he : e < 65536) : entT (T + e * 2 ^ (16 * m)) m = e := by
  rw [entT_eq, Nat.mul_comm, Nat.add_mul_div_left _ _ (Nat.two_pow_pos _), Nat.div_eq_of_lt hT, Nat.zero_add]
  exact Nat.mod_eq_of_lt he
theorem xor_lt {a b i : Nat} (h1 : a.testBit i = true) (h2 : b.testBit i = true) : Nat.xor a (Nat.land a b) < a := by
  have ht : ∀ j, (Nat.xor a (Nat.land a b)).testBit j = (a.testBit j != (a.testBit j && b.testBit j)) := fun j => by
    have := Nat.testBit_xor a (a &&& b) j
    rw [Nat.testBit_and] at this
    exact this
  have e : Nat.xor a (Nat.land a b) = a &&& Nat.xor a (Nat.land a b) := Nat.eq_of_testBit_eq fun j => by
    rw [Nat.testBit_and, ht]
    cases a.testBit j <;> cases b.testBit j <;> rfl
  have le : Nat.xor a (Nat.land a b) ≤ a := by
    rw [e]
    exact Nat.and_le_left
  refine Nat.lt_of_le_of_ne le fun q => ?_
  have := ht i
  rw [q, h1, h2] at this
  cases this
theorem run_ok {ns : List Int} (hs : ns ∈ subs ten) : ∀ (Ls : List (List Int)) (T M : Nat), TabG ns T M → 0 < M → Ls.Pairwise (fun a b => bitL a < bitL b) → (∀ l ∈ Ls, l ∈ subs ten ∧ (∀ k ∈ l, k ∈ ns) ∧ (l = [] ∨ M ≤ bitL l)) → (∀ l ∈ subs ten, (∀ k ∈ l, k ∈ ns) → bitL l < M ∨ l ∈ Ls) →
    runT (tabN.filter fun p => Nat.beq (Nat.land p.1 (bitL ns)) p.1) Ls T = true → ∀ l ∈ Ls, l ≠ [] → cnt (weigh (insideOf ns)) l ≤ 63
  | [], _, _, _, _, _, _, _, _ => fun l hl => by cases hl
  | [] :: r, T, M, G, m0, pw, mem, cpl, h => fun l hl ne => by
    rcases List.mem_cons.mp hl with rfl | hl
    · exact absurd rfl ne
    · refine run_ok hs r T M G m0 (List.pairwise_cons.mp pw).2 (fun l hl => mem l (List.mem_cons_of_mem _ hl)) (fun l h1 h2 => ?_) h l hl ne
      rcases cpl l h1 h2 with h | h
      · exact .inl h
      · rcases List.mem_cons.mp h with rfl | h
        · exact .inl m0
        · exact .inr h
  | (x :: t) :: r, T, M, G, m0, pw, mem, cpl, h => by
    obtain ⟨pw1, pw2⟩ := List.pairwise_cons.mp pw
    obtain ⟨hl, hn, hM⟩ := mem _ List.mem_cons_self
    have hM : M ≤ bitL (x :: t) := by
      rcases hM with h | h
      · cases h
      · exact h
    have below : ∀ l ∈ subs ten, (∀ k ∈ l, k ∈ ns) → bitL l < bitL (x :: t) → bitL l < M := fun l h1 h2 h3 => by
      rcases cpl l h1 h2 with h | h
      · exact h
      · rcases List.mem_cons.mp h with rfl | h
        · omega
        · have := pw1 l h
          omega
    have lower : ∀ q ∈ insideOf ns, x ∈ numbersOf q → bitL ((x :: t).filter fun k => !decide (k ∈ numbersOf q)) < M := fun q hq hx => by
      refine below _ (sub_filter hl _) (fun k hk => hn k (List.mem_filter.mp hk).1) ?_
      rw [← bitL_rest (fun k hk => subs_ten hl hk) (fun k hk => numbersOf_ten hk)]
      have hxt := ten_iff.mp (subs_ten hl (List.mem_cons_self (a := x) (l := t)))
      have b1 : (bitL (x :: t)).testBit (x.toNat - 1) = true := by
        rw [bitL_test _ _ (pos_of fun k hk => subs_ten hl hk)]
        have ek : (((x.toNat - 1 : Nat) : Int) + 1) = x := by omega
        rw [ek]
        simp
      have b2 : (bitL (numbersOf q)).testBit (x.toNat - 1) = true := by
        rw [bitL_test _ _ (pos_of fun k hk => numbersOf_ten hk)]
        have ek : (((x.toNat - 1 : Nat) : Int) + 1) = x := by omega
        rw [ek]
        simp [hx]
      exact xor_lt b1 b2
    have ef := fold_at hs G hl hn lower
    have hrun : (Nat.ble (foldT T (bitL (x :: t)) ((tabN.filter fun p => Nat.beq (Nat.land p.1 (bitL ns)) p.1).filter fun p => Nat.testBit p.1 (Nat.pred x.toNat)) 99 0) 16383 && runT (tabN.filter fun p => Nat.beq (Nat.land p.1 (bitL ns)) p.1) r (Nat.add T (Nat.shiftLeft (foldT T (bitL (x :: t)) ((tabN.filter fun p => Nat.beq (Nat.land p.1 (bitL ns)) p.1).filter fun p => Nat.testBit p.1 (Nat.pred x.toNat)) 99 0) (Nat.mul 16 (bitL (x :: t)))))) = true := h
    rw [ef, Bool.and_eq_true] at hrun
    obtain ⟨hle, hrun⟩ := hrun
    have hle := Nat.ble_eq.mp hle
    have esh : Nat.shiftLeft ((least (weigh (insideOf ns)) (x :: t)).toNat + 256 * cnt (weigh (insideOf ns)) (x :: t)) (Nat.mul 16 (bitL (x :: t))) = ((least (weigh (insideOf ns)) (x :: t)).toNat + 256 * cnt (weigh (insideOf ns)) (x :: t)) * 2 ^ (16 * bitL (x :: t)) := Nat.shiftLeft_eq _ _
    rw [esh] at hrun
    generalize hE : (least (weigh (insideOf ns)) (x :: t)).toNat + 256 * cnt (weigh (insideOf ns)) (x :: t) = e at hle hrun
    have hTm : T < 2 ^ (16 * bitL (x :: t)) := Nat.lt_of_lt_of_le G.lt (Nat.pow_le_pow_right (by decide) (by omega))
    have G2 : TabG ns (T + e * 2 ^ (16 * bitL (x :: t))) (bitL (x :: t) + 1) := by
      refine ⟨?_, fun l h1 h2 h3 => ?_⟩
      · have e1 : 2 ^ (16 * (bitL (x :: t) + 1)) = 65536 * 2 ^ (16 * bitL (x :: t)) := by
          rw [Nat.mul_add, Nat.pow_add]
          have h16 : (2 : Nat) ^ (16 * 1) = 65536 := by decide
          rw [h16, Nat.mul_comm]
        rw [e1]
        have : (e + 1) * 2 ^ (16 * bitL (x :: t)) ≤ 65536 * 2 ^ (16 * bitL (x :: t)) := Nat.mul_le_mul_right _ (by omega)
        rw [Nat.add_mul, Nat.one_mul] at this
        omega
      · by_cases he : bitL l = bitL (x :: t)
        · have el := bitL_inj h1 hl he
          rw [el, ent_new hTm (by omega), hE]
        · have hlt : bitL l < bitL (x :: t) := by omega
          rw [ent_add hlt]
          exact G.at_ l h1 h2 (below l h1 h2 hlt)
    intro l hm ne
    rcases List.mem_cons.mp hm with rfl | hm
    · omega
    · refine run_ok hs r _ (bitL (x :: t) + 1) G2 (by omega) pw2 (fun l h => ?_) (fun l h1 h2 => ?_) hrun l hm ne
      · obtain ⟨m1, m2, _⟩ := mem l (List.mem_cons_of_mem _ h)
        exact ⟨m1, m2, .inr (pw1 l h)⟩
      · rcases cpl l h1 h2 with h | h
        · exact .inl (by omega)
        · rcases List.mem_cons.mp h with rfl | h
          · exact .inl (by omega)
          · exact .inr h
end RT
end
section
set_option Elab.async false
set_option linter.all false
set_option maxRecDepth 100000
set_option maxHeartbeats 8000000
namespace RT
open PySem PySem.Spec PyProof.Rows L2
def cutS (k : Nat) : List (List Int) := ((subs ten).drop (32 * k)).take 32
theorem ok_0 : (cutS 0).all okN = true := by decide +kernel
theorem ok_1 : (cutS 1).all okN = true := by decide +kernel
theorem ok_2 : (cutS 2).all okN = true := by decide +kernel
theorem ok_3 : (cutS 3).all okN = true := by decide +kernel
theorem ok_4 : (cutS 4).all okN = true := by decide +kernel
theorem ok_5 : (cutS 5).all okN = true := by decide +kernel
theorem ok_6 : (cutS 6).all okN = true := by decide +kernel
theorem ok_7 : (cutS 7).all okN = true := by decide +kernel
theorem ok_8 : (cutS 8).all okN = true := by decide +kernel
theorem ok_9 : (cutS 9).all okN = true := by decide +kernel
theorem ok_10 : (cutS 10).all okN = true := by decide +kernel
theorem ok_11 : (cutS 11).all okN = true := by decide +kernel
theorem ok_12 : (cutS 12).all okN = true := by decide +kernel
theorem ok_13 : (cutS 13).all okN = true := by decide +kernel
theorem ok_14 : (cutS 14).all okN = true := by decide +kernel
theorem ok_15 : (cutS 15).all okN = true := by decide +kernel
theorem ok_16 : (cutS 16).all okN = true := by decide +kernel
theorem ok_17 : (cutS 17).all okN = true := by decide +kernel
theorem ok_18 : (cutS 18).all okN = true := by decide +kernel
theorem ok_19 : (cutS 19).all okN = true := by decide +kernel
theorem ok_20 : (cutS 20).all okN = true := by decide +kernel
theorem ok_21 : (cutS 21).all okN = true := by decide +kernel
theorem ok_22 : (cutS 22).all okN = true := by decide +kernel
theorem ok_23 : (cutS 23).all okN = true := by decide +kernel
theorem ok_24 : (cutS 24).all okN = true := by decide +kernel
theorem ok_25 : (cutS 25).all okN = true := by decide +kernel
theorem ok_26 : (cutS 26).all okN = true := by decide +kernel
theorem ok_27 : (cutS 27).all okN = true := by decide +kernel
theorem ok_28 : (cutS 28).all okN = true := by decide +kernel
theorem ok_29 : (cutS 29).all okN = true := by decide +kernel
theorem ok_30 : (cutS 30).all okN = true := by decide +kernel
theorem ok_31 : (cutS 31).all okN = true := by decide +kernel
theorem mem_cutS {a : List Int} (h : a ∈ subs ten) : ∃ k, k < 32 ∧ a ∈ cutS k := by
  obtain ⟨i, hi, e⟩ := List.mem_iff_getElem.mp h
  have hl : (subs ten).length = 1024 := by decide +kernel
  refine ⟨i / 32, by omega, ?_⟩
  refine List.mem_iff_getElem.mpr ⟨i % 32, by unfold cutS; simp only [List.length_take, List.length_drop]; omega, ?_⟩
  simp only [cutS, List.getElem_take, List.getElem_drop]
  rw [← e]
  congr 1
  omega
theorem ok_all : (subs ten).all okN = true := List.all_eq_true.mpr fun a h => by
  obtain ⟨k, hk, m⟩ := mem_cutS h
  have : ∀ k : Nat, k < 32 → (cutS k).all okN = true := fun k hk => match k, hk with
    | 0, _ => ok_0 | 1, _ => ok_1 | 2, _ => ok_2 | 3, _ => ok_3 | 4, _ => ok_4 | 5, _ => ok_5 | 6, _ => ok_6 | 7, _ => ok_7 | 8, _ => ok_8 | 9, _ => ok_9 | 10, _ => ok_10 | 11, _ => ok_11 | 12, _ => ok_12 | 13, _ => ok_13 | 14, _ => ok_14 | 15, _ => ok_15 | 16, _ => ok_16 | 17, _ => ok_17 | 18, _ => ok_18 | 19, _ => ok_19 | 20, _ => ok_20 | 21, _ => ok_21 | 22, _ => ok_22 | 23, _ => ok_23 | 24, _ => ok_24 | 25, _ => ok_25 | 26, _ => ok_26 | 27, _ => ok_27 | 28, _ => ok_28 | 29, _ => ok_29 | 30, _ => ok_30 | 31, _ => ok_31 | n + 32, h => absurd h (by omega)
  exact List.all_eq_true.mp (this k hk) a m
end RT
end
section
set_option Elab.async false
set_option linter.all false
set_option maxRecDepth 100000
set_option maxHeartbeats 8000000
namespace RT
open PySem PySem.Spec PyProof.Rows L2
theorem subsD_sub : ∀ {ys l : List Int}, l ∈ subsD ys → l.Sublist ys.reverse
  | [], l, h => by
    simp [subsD] at h
    rw [h]
    exact .slnil
  | y :: ys, l, h => by
    rw [List.reverse_cons]
    unfold subsD at h
    rcases List.mem_append.mp h with h | h
    · exact (subsD_sub h).trans (List.sublist_append_left _ _)
    · obtain ⟨t, ht, rfl⟩ := List.mem_map.mp h
      exact (subsD_sub ht).append (List.Sublist.refl _)
theorem sub_subsD : ∀ {ys l : List Int}, l.Sublist ys.reverse → l ∈ subsD ys
  | [], l, h => by
    have : l = [] := List.sublist_nil.mp h
    subst this
    simp [subsD]
  | y :: ys, l, h => by
    rw [List.reverse_cons] at h
    obtain ⟨l1, l2, rfl, h1, h2⟩ := List.sublist_append_iff.mp h
    unfold subsD
    rcases l2 with _ | ⟨z, l2⟩
    · rw [List.append_nil]
      exact List.mem_append_left _ (sub_subsD h1)
    · have e : z :: l2 = [y] := by
        have hl := h2.length_le
        simp at hl
        subst hl
        have : z = y := by
          have := h2.subset List.mem_cons_self
          simpa using this
        rw [this]
      rw [e]
      exact List.mem_append_right _ (List.mem_map.mpr ⟨l1, sub_subsD h1, rfl⟩)
theorem bitL_lt {l : List Int} {y : Int} (h : ∀ k ∈ l, k ∈ ten ∧ k < y) (hy : 1 ≤ y) : bitL l < 2 ^ (y.toNat - 1) := by
  refine Nat.lt_pow_two_of_testBit _ fun i hi => ?_
  rw [bitL_test _ _ (pos_of fun k hk => (h k hk).1)]
  refine decide_eq_false fun hk => ?_
  have := (h _ hk).2
  omega
theorem bitL_snoc {l : List Int} {y : Int} (h : ∀ k ∈ l, k ∈ ten ∧ k < y) (hy : y ∈ ten) : bitL (l ++ [y]) = bitL l + 2 ^ (y.toNat - 1) := by
  have y1 := ten_iff.mp hy
  have lt := bitL_lt h y1.1
  have e := Nat.two_pow_add_eq_or_of_lt lt 1
  rw [Nat.mul_one] at e
  rw [Nat.add_comm, e]
  refine Nat.eq_of_testBit_eq fun i => ?_
  rw [Nat.testBit_or, bitL_test _ _ (pos_of fun k hk => by
    rcases List.mem_append.mp hk with hk | hk
    · exact (h k hk).1
    · rw [List.mem_singleton.mp hk]
      exact hy), bitL_test _ _ (pos_of fun k hk => (h k hk).1), Nat.testBit_two_pow]
  by_cases c : y.toNat - 1 = i
  · have : ((i : Int) + 1) = y := by omega
    simp [c, this]
  · have : ¬ ((i : Int) + 1) = y := by omega
    simp [c, this]
theorem subsD_asc : ∀ {ys : List Int}, ys.Pairwise (fun a b => b < a) → (∀ k ∈ ys, k ∈ ten) → (subsD ys).Pairwise fun a b => bitL a < bitL b
  | [], _, _ => List.pairwise_singleton _ _
  | y :: ys, pw, ht => by
    obtain ⟨p1, p2⟩ := List.pairwise_cons.mp pw
    have ih := subsD_asc p2 fun k hk => ht k (List.mem_cons_of_mem _ hk)
    have hy := ht y List.mem_cons_self
    have y1 := ten_iff.mp hy
    have el : ∀ l ∈ subsD ys, ∀ k ∈ l, k ∈ ten ∧ k < y := fun l hl k hk => by
      have := List.mem_reverse.mp ((subsD_sub hl).subset hk)
      exact ⟨ht k (List.mem_cons_of_mem _ this), p1 k this⟩
    unfold subsD
    refine List.pairwise_append.mpr ⟨ih, ?_, fun a ha b hb => ?_⟩
    · rw [List.pairwise_map]
      refine List.Pairwise.imp_of_mem (fun {a b} ha hb h => ?_) ih
      rw [bitL_snoc (el a ha) hy, bitL_snoc (el b hb) hy]
      omega
    · obtain ⟨t, htm, rfl⟩ := List.mem_map.mp hb
      rw [bitL_snoc (el t htm) hy]
      have := bitL_lt (el a ha) y1.1
      omega
theorem cnt_63 {ns : List Int} (hs : ns ∈ subs ten) {left : List Int} (hl : left ∈ subs ten) (hn : ∀ k ∈ left, k ∈ ns) : cnt (weigh (insideOf ns)) left ≤ 63 := by
  by_cases ne : left = []
  · subst ne
    show 1 ≤ 63
    decide
  · have hrun : runT (tabN.filter fun p => Nat.beq (Nat.land p.1 (bitL ns)) p.1) (subsD ns.reverse) 256 = true := List.all_eq_true.mp ok_all ns hs
    have sub : ∀ l ∈ subs ten, (∀ k ∈ l, k ∈ ns) → l.Sublist ns := fun l h1 h2 => by
      have e : l = ns.filter fun k => decide (k ∈ l) := set_ext h1 (sub_filter hs _) fun k => by
        rw [List.mem_filter, decide_eq_true_eq]
        exact ⟨fun h => ⟨h2 k h, h⟩, fun h => h.2⟩
      rw [e]
      exact List.filter_sublist
    refine run_ok hs (subsD ns.reverse) 256 1 ⟨by decide, fun l h1 h2 h3 => ?_⟩ (by decide) (subsD_asc ?_ fun k hk => subs_ten hs (List.mem_reverse.mp hk)) (fun l h => ?_) (fun l h1 h2 => .inr (sub_subsD (by rw [List.reverse_reverse]; exact sub l h1 h2))) hrun left (sub_subsD (by rw [List.reverse_reverse]; exact sub left hl hn)) ne
    · have e0 : bitL l = bitL [] := by
        have : bitL [] = 0 := rfl
        omega
      have : l = [] := bitL_inj h1 (sub_subs (List.nil_sublist _)) e0
      subst this
      have e : entT 256 0 = 256 := by decide
      exact e
    · rw [List.pairwise_reverse]
      exact subs_asc hs
    · have h1 := subsD_sub h
      rw [List.reverse_reverse] at h1
      refine ⟨sub_subs (h1.trans (subs_sub hs)), fun k hk => h1.subset hk, ?_⟩
      cases l with
      | nil => exact .inl rfl
      | cons k r =>
        refine .inr (Nat.pos_of_ne_zero fun e => ?_)
        have : (k :: r : List Int) = [] := bitL_inj (sub_subs (h1.trans (subs_sub hs))) (sub_subs (List.nil_sublist _)) e
        cases this
end RT
end
section
set_option Elab.async false
set_option linter.all false
set_option maxRecDepth 100000
set_option maxHeartbeats 6400000
/-! ### sets whose elements are tuples of numbers, nested -/
namespace RT
open PySem PySem.Spec PyProof.Rows L2
mutual
def numK : NestedKey → Bool
  | .num _ => true
  | .tup ks => numKs ks
  | .none => false
  | .text _ => false
def numKs : List NestedKey → Bool
  | [] => true
  | k :: ks => numK k && numKs ks
end
section
variable {P : Program} {w : World} {A : Around} {E : Value → Shared → Prop} {s : Shared}
/-- v is of no class statement, n levels down -/
def NoCls (P : Program) (w : World) (n : Nat) (s : Shared) (v : Value) : Prop := ∀ (A : Around) (E : Value → Shared → Prop) (Q : Bool → Shared → Prop), Q false s → wpAny (model P w) A (ofAClassStatement n v) Q E s
/-- v's hash is by its value, n levels down -/
def ByV (P : Program) (w : World) (n : Nat) (s : Shared) (v : Value) : Prop := ∀ (A : Around) (E : Value → Shared → Prop) (Q : Bool → Shared → Prop), Q true s → wpAny (model P w) A (hashByValue n v) Q E s
theorem noCls_tup {n m : Nat} {a : Addr} {o : Obj} {vs : Array Value} (ho : s.heap.get? a = some o) (hc : o.cls = .type "tuple") (hd : o.data = .seq vs m) (hv : ∀ v ∈ vs.toList, NoCls P w n s v) : NoCls P w (n + 1) s (.ref a) := by
  intro A E Q q
  have ty : s.TypeIs (.ref a) "tuple" := ⟨o, ho, hc⟩
  have tt : (("tuple" : String) == "tuple") = true := by decide
  unfold ofAClassStatement
  refine wpAny_bind (wpAny_typeOf ty ?_)
  dsimp only
  simp only [tt, if_true, Bool.not_true, Bool.false_eq_true, if_false]
  try refine wpAny_bind (wpAny_pure ?_)
  try simp only [Bool.not_true, Bool.false_eq_true, if_false]
  change wpAny _ _ (seqItems? (.ref a) >>= _) _ _ s
  refine wpAny_bind (wpAny_seqItems ho hd ?_)
  dsimp only
  refine wpAny_bind ?_
  change wpAny _ _ (forIn vs _ _) _ _ s
  rw [← Array.forIn_toList]
  refine wpAny_forIn_list _ (fun l b z => b.1 = none ∧ z = s ∧ ∀ v ∈ l, NoCls P w n s v) _ (fun v l b z hz => ?_) (fun b z hz => ?_) _ _ ⟨rfl, rfl, hv⟩
  · obtain ⟨_, ez, all⟩ := hz
    subst ez
    refine wpAny_bind (all v List.mem_cons_self _ _ _ ?_)
    simp only [Bool.false_eq_true, if_false]
    exact wpAny_pure ⟨rfl, rfl, fun u hu => all u (List.mem_cons_of_mem _ hu)⟩
  · obtain ⟨b1, b2⟩ := b
    obtain ⟨eb, ez, _⟩ := hz
    subst ez
    simp only at eb
    subst eb
    exact wpAny_pure q
theorem byV_tup {n m : Nat} {a : Addr} {o : Obj} {vs : Array Value} (ho : s.heap.get? a = some o) (hc : o.cls = .type "tuple") (hd : o.data = .seq vs m) (hv : ∀ v ∈ vs.toList, ByV P w n s v) : ByV P w (n + 1) s (.ref a) := by
  intro A E Q q
  have ty : s.TypeIs (.ref a) "tuple" := ⟨o, ho, hc⟩
  unfold hashByValue
  refine wpAny_bind (wpAny_specialOf ty F.slot_tuple_hash.lookup ?_)
  change wpAny _ _ (seqItems? (.ref a) >>= _) _ _ s
  refine wpAny_bind (wpAny_seqItems ho hd ?_)
  refine wpAny_bind ?_
  change wpAny _ _ (forIn vs _ _) _ _ s
  rw [← Array.forIn_toList]
  refine wpAny_forIn_list _ (fun l b z => b.1 = none ∧ z = s ∧ ∀ v ∈ l, ByV P w n s v) _ (fun v l b z hz => ?_) (fun b z hz => ?_) _ _ ⟨rfl, rfl, hv⟩
  · obtain ⟨_, ez, all⟩ := hz
    subst ez
    refine wpAny_bind (all v List.mem_cons_self _ _ _ ?_)
    simp only [Bool.not_true, Bool.false_eq_true, if_false]
    exact wpAny_pure ⟨rfl, rfl, fun u hu => all u (List.mem_cons_of_mem _ hu)⟩
  · obtain ⟨b1, b2⟩ := b
    obtain ⟨eb, ez, _⟩ := hz
    subst ez
    simp only at eb
    subst eb
    exact wpAny_pure q
theorem noCls_int (n : Nat) (i : Int) (t : Tok) : NoCls P w n s (.int i t) := fun A E Q q => by cases n <;> exact wpAny_pure q
theorem noCls_bool (n : Nat) (b : Bool) : NoCls P w n s (.bool b) := fun A E Q q => by cases n <;> exact wpAny_pure q
theorem byV_int (n : Nat) (i : Int) (t : Tok) : ByV P w n s (.int i t) := fun A E Q q => by cases n <;> exact wpAny_pure q
theorem byV_bool (n : Nat) (b : Bool) : ByV P w n s (.bool b) := fun A E Q q => by cases n <;> exact wpAny_pure q
mutual
theorem key_flat : ∀ (k : NestedKey) (v : Value) (n : Nat), NestedIs s.heap k v → numK k = true → k.depth ≤ n → NoCls P w n s v ∧ ByV P w n s v
  | .num i, _, n, x, _, _ => by
    cases x with
    | bool _ => exact ⟨noCls_bool n _, byV_bool n _⟩
    | int i t => exact ⟨noCls_int n i t, byV_int n i t⟩
  | .tup ks, _, n, x, h, hn => by
    cases x with
    | tup ho hc hd hk =>
      unfold numK at h
      unfold NestedKey.depth at hn
      obtain ⟨n, rfl⟩ : ∃ j, n = j + 1 := ⟨n - 1, by omega⟩
      have ih := keys_flat ks _ n hk h (by omega)
      exact ⟨noCls_tup ho hc hd fun v hv => (ih v hv).1, byV_tup ho hc hd fun v hv => (ih v hv).2⟩
  | .none, _, _, _, h, _ => by unfold numK at h; cases h
  | .text _, _, _, _, h, _ => by unfold numK at h; cases h
theorem keys_flat : ∀ (ks : List NestedKey) (vs : List Value) (n : Nat), NestedAll s.heap ks vs → numKs ks = true → NestedKey.depthAll ks ≤ n → ∀ v ∈ vs, NoCls P w n s v ∧ ByV P w n s v
  | [], _, _, x, _, _, v, hv => by
    cases x
    cases hv
  | k :: ks, _, n, x, h, hn, v, hv => by
    cases x with
    | cons x1 x2 =>
      unfold numKs at h
      unfold NestedKey.depthAll at hn
      rw [Bool.and_eq_true] at h
      rcases List.mem_cons.mp hv with rfl | hv
      · exact key_flat k _ n x1 h.1 (by omega)
      · exact keys_flat ks _ n x2 h.2 (by omega) v hv
end
/-- at the address a tuple that is such a key -/
structure KeyA (h : Heap) (k : NestedKey) (a : Addr) : Prop where
  is : NestedIs h k (.ref a)
  num : numK k = true
  dp : k.depth ≤ 4
theorem KeyA.keep {h h' : Heap} {k : NestedKey} {a : Addr} (x : KeyA h k a) (hk : ∀ b o vs n, h.get? b = some o → o.data = .seq vs n → h'.get? b = some o) : KeyA h' k a := ⟨NestedIs.at hk _ _ x.is, x.num, x.dp⟩
theorem KeyA.eqB {x y : NestedKey} {a b : Addr} (hx : KeyA s.heap x a) (hy : KeyA s.heap y b) (hu : A.units + 4 < cLine) {Q : Bool → Shared → Prop} (q : Q (decide (x = y)) s) : wpAny (model P w) A (eqBool (.ref a) (.ref b)) Q E s :=
  eqAt_key x y A s _ _ hx.is hy.is (by have := hx.dp; omega) _ _ _ _ (by rw [← NestedKey.decide_eq]; exact q)
theorem KeyA.unseen {x : NestedKey} {a : Addr} (hx : KeyA s.heap x a) {ys : List Value} (hy : ∀ y ∈ ys, ∃ k b, y = Value.ref b ∧ KeyA s.heap k b) {Q : Bool → Shared → Prop} (q : Q false s) : wpAny (model P w) A (searchCouldBeSeen (.ref a) ys) Q E s := by
  unfold searchCouldBeSeen
  refine wpAny_bind ?_
  refine wpAny_forIn_list _ (fun l b z => b.1 = none ∧ z = s ∧ ∀ y ∈ l, ∃ k b, y = Value.ref b ∧ KeyA s.heap k b) _ (fun v l b z hz => ?_) (fun b z hz => ?_) _ _ ⟨rfl, rfl, hy⟩
  · obtain ⟨_, ez, all⟩ := hz
    subst ez
    obtain ⟨k, c, ev, hc⟩ := all v List.mem_cons_self
    subst ev
    have more : ∀ y ∈ l, ∃ k b, y = Value.ref b ∧ KeyA z.heap k b := fun u hu => all u (List.mem_cons_of_mem _ hu)
    dsimp only
    by_cases same : (a == c || (carriedByValue (.ref a) && carriedByValue (.ref c))) = true
    · exact wp_if_pos same (wpAny_pure ⟨rfl, rfl, more⟩)
    · refine wp_if_neg same ?_
      refine wpAny_bind (quiet_key x _ 8 z hx.is (by have := hx.dp; omega) _ _ _ ?_)
      simp only [Bool.not_true, Bool.false_eq_true, if_false]
      refine wpAny_bind (quiet_key k _ 8 z hc.is (by have := hc.dp; omega) _ _ _ ?_)
      simp only [Bool.not_true, Bool.false_eq_true, if_false]
      refine wpAny_bind ((key_flat (P := P) (w := w) x _ 8 hx.is hx.num (by have := hx.dp; omega)).1 _ _ _ ?_)
      simp only [Bool.false_eq_true, if_false]
      refine wpAny_bind ((key_flat (P := P) (w := w) k _ 8 hc.is hc.num (by have := hc.dp; omega)).1 _ _ _ ?_)
      simp only [Bool.false_eq_true, if_false]
      exact wpAny_pure ⟨rfl, rfl, more⟩
  · obtain ⟨b1, b2⟩ := b
    obtain ⟨eb, ez, _⟩ := hz
    subst ez
    simp only at eb
    subst eb
    exact wpAny_pure q
end
end RT
end
section
set_option Elab.async false
set_option linter.all false
set_option maxRecDepth 100000
set_option maxHeartbeats 6400000
namespace RT
open PySem PySem.Spec PyProof.Rows L2
abbrev KL := List (Addr × NestedKey)
/-- the hashes of the elements -/
def hsOf (w : World) (L : KL) : List Int := L.map fun p => p.2.hash w
def rwOf (w : World) (L : KL) : List (Int × Value) := L.map fun p => (p.2.hash w, Value.ref p.1)
theorem hsOf_len (w : World) (L : KL) : (hsOf w L).length = L.length := List.length_map ..
theorem rwOf_len (w : World) (L : KL) : (rwOf w L).length = L.length := List.length_map ..
structure SetN (w : World) (h : Heap) (a : Addr) (L : KL) (es : Array (Int × Value)) (ep : Nat) (t : SetTable) : Prop where
  ob : ∃ o, h.get? a = some o ∧ o.ExactSet ∧ o.data = .set es ep t
  rw : es.toList = rwOf w L
  tb : TabOk t (hsOf w L)
  nd : (L.map (·.2)).Nodup
  ks : ∀ p ∈ L, KeyA h p.2 p.1
  pl : t.plain = true
  ld : w.params.followText "set-order" = true ∨ t.led = true
  rm : L.length * 5 < t.mask * 3
  fw : L.length < 64
section
variable {P : Program} {w : World} {A : Around} {E : Value → Shared → Prop} {s : Shared} {a : Addr} {L : KL} {es : Array (Int × Value)} {ep : Nat} {t : SetTable}
theorem rows_size (h : es.toList = rwOf w L) : es.size = L.length := by
  rw [← rwOf_len w L, ← h, Array.length_toList]
theorem SetN.sz {h : Heap} (R : SetN w h a L es ep t) : es.size = L.length := rows_size R.rw
theorem fits_of (h : es.toList = rwOf w L) (hp : t.place.size = L.length) (hd : t.dummies = #[]) (hm : L.length ≤ t.mask) : t.fits es.size = true := by
  unfold SetTable.fits SetTable.fill
  rw [hd, Bool.and_eq_true, beq_iff_eq, decide_eq_true_eq, rows_size h]
  change t.place.size = L.length ∧ t.place.size + 0 ≤ t.mask
  omega
theorem SetN.pz {h : Heap} (R : SetN w h a L es ep t) : t.place.size = L.length := R.tb.sz.trans (hsOf_len w L)
theorem SetN.ft {h : Heap} (R : SetN w h a L es ep t) : t.fits es.size = true := fits_of R.rw R.pz R.tb.dm (by have := R.rm; omega)
theorem SetN.row {h : Heap} (R : SetN w h a L es ep t) {i : Nat} {p : Addr × NestedKey} (hp : L[i]? = some p) : es[i]? = some (p.2.hash w, Value.ref p.1) := by
  rw [← Array.getElem?_toList, R.rw]
  unfold rwOf
  rw [List.getElem?_map, hp]
  rfl
theorem SetN.whole {h : Heap} (R : SetN w h a L es ep t) : ¬ t.gaveWay = true := by
  unfold SetTable.gaveWay
  rw [mask_odd R.tb.mok]
  decide
/-- the c-th step of the way of a hash -/
def wy (t : SetTable) (h : Int) (c : Nat) : SetTable.Probe := nth t.mask (runAt t.mask (SetTable.bits h % (t.mask + 1)) (SetTable.bits h)) c
theorem wy_add (t : SetTable) (h : Int) (c q : Nat) : nth t.mask (wy t h c) q = wy t h (c + q) := (nth_add t.mask c _ q).symm
theorem wy_j (t : SetTable) (h : Int) (c q : Nat) : (nth t.mask (wy t h c) q).j = way t.mask h (c + q) := congrArg SetTable.Probe.j (wy_add t h c q)
theorem nth_dummy (m : Nat) : ∀ (n : Nat) (p : SetTable.Probe), p.dummy = none → (nth m p n).dummy = none
  | 0, _, h => h
  | n + 1, p, h => nth_dummy m n (adv m p) (by unfold adv; split <;> exact h)
/-- where the key is, if it is in the table: ahead of K -/
def Ahead (w : World) (L : KL) (t : SetTable) (k : NestedKey) (c K : Nat) : Prop := ∀ (i : Nat) (p : Addr × NestedKey), L[i]? = some p → p.2 = k → ∃ c', c ≤ c' ∧ c' < K ∧ t.place.toList[i]? = some (way t.mask (k.hash w) c')
theorem find_go (R : SetN w s.heap a L es ep t) {x : Addr} {k : NestedKey} (hx : KeyA s.heap k x) (hu : A.units + 4 < cLine) {K : Nat} (kf : K < 10 * SetTable.turns t.mask) (kn : way t.mask (k.hash w) K ∉ t.place.toList) (kb : ∀ c, c < K → way t.mask (k.hash w) c ∈ t.place.toList)
    {Q : SetFound → Shared → Prop} (yes : k ∈ L.map (·.2) → Q (.there none) s) (no : k ∉ L.map (·.2) → Q (.free (way t.mask (k.hash w) K) false) s) :
    ∀ (f c : Nat) (st : Option SetTable.Probe), st.getD (t.probeStart (k.hash w)) = wy t (k.hash w) c → c ≤ K → K - c < f → Ahead w L t k c K → wpAny (model P w) A (setSearchFrom a (.ref x) (k.hash w) true f st) Q E s
  | 0, _, _, _, _, hf, _ => absurd hf (Nat.not_lt_zero _)
  | f + 1, c, st, hst, hc, hf, ah => by
    obtain ⟨o, ho, _, hd⟩ := R.ob
    have hashAt : ∀ (i : Nat) (p : Addr × NestedKey), L[i]? = some p → (fun i => (es[i]?.map (·.1)).getD 0) i = p.2.hash w := fun i p hp => by
      change (es[i]?.map (·.1)).getD 0 = _
      rw [R.row hp]
      rfl
    have spec := go_spec t R.tb.ris R.tb.dm (fun i => (es[i]?.map (·.1)).getD 0) (k.hash w) (10 * SetTable.turns t.mask) (K - c) (wy t (k.hash w) c) (nth_dummy _ _ _ rfl) (by omega)
      (fun q hq => by rw [wy_j]; exact kb (c + q) (by omega)) (by rw [wy_j, show c + (K - c) = K by omega]; exact kn)
    rw [setSearchFrom_succ]
    refine wpAny_bind (wpAny_setState_of ho hd R.ft ?_)
    dsimp only
    refine wp_if_neg R.whole ?_
    try refine wpAny_bind (wpAny_pure ?_)
    rcases spec with ⟨q, i, hq, hi, _, past, met⟩ | ⟨past, met⟩
    · rw [wy_j] at hi
      rw [wy_j, wy_add] at met
      have met' : t.probe (fun i => (es[i]?.map (·.1)).getD 0) (k.hash w) (st.getD (t.probeStart (k.hash w))) = some (.candidate (way t.mask (k.hash w) (c + q)) i (wy t (k.hash w) (c + (q + 1)))) := by
        rw [hst]
        exact met
      rw [met']
      dsimp only
      have il : i < L.length := by
        have h1 := (List.getElem?_eq_some_iff.mp hi).1
        rw [Array.length_toList, R.pz] at h1
        exact h1
      obtain ⟨p, hp⟩ : ∃ p, L[i]? = some p := ⟨_, List.getElem?_eq_getElem il⟩
      have pm : p ∈ L := List.mem_of_getElem? hp
      have pk := R.ks p pm
      have live : t.slot (way t.mask (k.hash w) (c + q)) = .live i := slot_live R.tb.ris hi
      have behind : wpAny (model P w) A (searchRest a (.ref x) (k.hash w) true f es t (way t.mask (k.hash w) (c + q)) i (wy t (k.hash w) (c + (q + 1)))) Q E s := by
        unfold searchRest
        rw [R.row hp]
        dsimp only
        refine wpAny_bind (wpAny_holding (KeyA.eqB pk hx hu ?_))
        refine wpAny_bind (wpAny_setState_of ho hd R.ft ?_)
        dsimp only
        by_cases e : p.2 = k
        · exact wp_if_pos (by simp [e]) (wpAny_pure (yes (List.mem_map.mpr ⟨p, pm, e⟩)))
        · refine wp_if_neg (by simp [e]) ?_
          try refine wpAny_bind (wpAny_pure ?_)
          rw [sameMem]
          dsimp only
          simp only [if_true, live, R.row hp]
          refine wpAny_bind (wpAny_isSame_ref_self (wpAny_bind (wpAny_pure ?_)))
          simp only [if_true]
          refine wp_if_neg (by simp [e]) ?_
          refine find_go R hx hu kf kn kb yes no f (c + (q + 1)) _ rfl (by omega) (by omega) fun i0 p0 h0 e0 => ?_
          obtain ⟨c', a1, a2, a3⟩ := ah i0 p0 h0 e0
          refine ⟨c', ?_, a2, a3⟩
          have n1 : ¬ c' < c + q := fun z => past (c' - c) i0 (by omega) (by rw [wy_j, show c + (c' - c) = c' by omega]; exact a3) ((hashAt i0 p0 h0).trans (congrArg (NestedKey.hash w) e0))
          have n2 : c' ≠ c + q := fun z => by
            rw [z] at a3
            have l2 := slot_live R.tb.ris a3
            rw [live] at l2
            injection l2 with l2
            rw [← l2, hp] at h0
            exact e ((congrArg Prod.snd (Option.some.inj h0)).trans e0)
          omega
      by_cases hl : t.led = true
      · refine wp_if_neg (by simp [hl]) ?_
        try refine wpAny_bind (wpAny_pure ?_)
        exact behind
      · refine wp_if_pos (by simp [hl]) ?_
        refine wpAny_bind (KeyA.unseen hx (fun y hy => ?_) ?_)
        · obtain ⟨e, he, ee⟩ := List.mem_map.mp hy
          have he1 : e ∈ es ∧ e.1 = k.hash w := by simpa using he
          have he2 : e ∈ es.toList := by simpa using he1.1
          rw [R.rw] at he2
          obtain ⟨p2, hp2, e2⟩ := List.mem_map.mp he2
          exact ⟨p2.2, p2.1, by rw [← ee, ← e2], R.ks p2 hp2⟩
        · refine wp_if_neg (by decide) ?_
          try refine wpAny_bind (wpAny_pure ?_)
          exact behind
    · have met' : t.probe (fun i => (es[i]?.map (·.1)).getD 0) (k.hash w) (st.getD (t.probeStart (k.hash w))) = some (.empty (way t.mask (k.hash w) K) none) := by
        have e2 := wy_j t (k.hash w) c (K - c)
        rw [show c + (K - c) = K by omega] at e2
        rw [hst, ← e2]
        exact met
      rw [met']
      dsimp only
      refine wpAny_pure (no fun hm => ?_)
      obtain ⟨p0, m0, e0⟩ := List.mem_map.mp hm
      obtain ⟨i0, l0, ei⟩ := List.getElem_of_mem m0
      have h0 : L[i0]? = some p0 := by rw [List.getElem?_eq_getElem l0, ei]
      obtain ⟨c', a1, a2, a3⟩ := ah i0 p0 h0 e0
      exact past (c' - c) i0 (by omega) (by rw [wy_j, show c + (c' - c) = c' by omega]; exact a3) ((hashAt i0 p0 h0).trans (congrArg (NestedKey.hash w) e0))
theorem find_at (R : SetN w s.heap a L es ep t) {x : Addr} {k : NestedKey} (hx : KeyA s.heap k x) (hu : A.units + 4 < cLine) {Q : SetFound → Shared → Prop} (yes : k ∈ L.map (·.2) → Q (.there none) s)
    (no : ∀ K, k ∉ L.map (·.2) → way t.mask (k.hash w) K ∉ t.place.toList → (∀ c, c < K → way t.mask (k.hash w) c ∈ t.place.toList) → Q (.free (way t.mask (k.hash w) K) false) s) :
    wpAny (model P w) A (setSearch a (.ref x) (k.hash w) true) Q E s := by
  obtain ⟨K, kf, kn, kb⟩ := R.tb.first (by rw [hsOf_len]; have := R.rm; omega) (k.hash w)
  have small : 10 * SetTable.turns t.mask ≤ 1420 := by
    unfold SetTable.turns
    rcases R.tb.mok with e | e | e <;> omega
  unfold setSearch
  refine find_go R hx hu kf kn kb yes (fun hn => no K hn kn kb) 100000 0 none rfl (Nat.zero_le _) (by omega) fun i p hp e => ?_
  have hi : (hsOf w L)[i]? = some (k.hash w) := by
    unfold hsOf
    rw [List.getElem?_map, hp, ← e]
    rfl
  have il : i < t.place.toList.length := by
    rw [Array.length_toList, R.pz]
    exact (List.getElem?_eq_some_iff.mp hp).1
  have hj := List.getElem?_eq_getElem il
  obtain ⟨c, hc, e2⟩ := R.tb.before kn hi hj
  exact ⟨c, Nat.zero_le _, hc, by rw [hj, e2]⟩
end
end RT
end
section
set_option Elab.async false
set_option linter.all false
set_option maxRecDepth 100000
set_option maxHeartbeats 6400000
namespace RT
open PySem PySem.Spec PyProof.Rows L2
section
variable {P : Program} {w : World} {A : Around} {E : Value → Shared → Prop} {s : Shared} {a : Addr} {L : KL} {es : Array (Int × Value)} {ep : Nat} {t : SetTable}
/-- a tuple is no set: what is written at the set leaves it -/
theorem KeyA.other {h h' : Heap} {k : NestedKey} {b : Addr} {o : Obj} (x : KeyA h k b) (ho : h.get? a = some o) (hd : o.data = .set es ep t) (hs : Heap.SameBut a h h') : KeyA h' k b := x.keep fun c u vs n hc hu => by
  refine (hs.2 c fun e => ?_).trans hc
  rw [e, ho] at hc
  cases hc
  rw [hd] at hu
  cases hu
theorem sub_ix {α : Type} (l : List α) : ∀ n, n ≤ l.length → (List.range n).filterMap (fun i => l[i]?) = l.take n
  | 0, _ => rfl
  | n + 1, h => by
    rw [List.range_succ, List.filterMap_append, sub_ix l n (Nat.le_of_lt h), List.take_succ, List.getElem?_eq_getElem h, List.filterMap_cons_some (List.getElem?_eq_getElem h)]
    rfl
/-- the rows in another order -/
theorem rows_moved {order : Array Nat} (hr : es.toList = rwOf w L) (hp : order.toList.Perm (List.range L.length)) : ∃ L2, (order.filterMap (es[·]?)).toList = rwOf w L2 ∧ L2.Perm L ∧ hsOf w L2 = order.toList.map fun i => (es.map (·.1)).getD i 0 := by
  have at_ : ∀ i (h : i < L.length), es[i]? = some ((L[i]).2.hash w, Value.ref (L[i]).1) := fun i h => by
    rw [← Array.getElem?_toList, hr]
    unfold rwOf
    rw [List.getElem?_map, List.getElem?_eq_getElem h]
    rfl
  have go : ∀ l : List Nat, (∀ i ∈ l, i < L.length) → l.filterMap (fun i => es[i]?) = rwOf w (l.filterMap fun i => L[i]?) ∧ hsOf w (l.filterMap fun i => L[i]?) = l.map fun i => (es.map (·.1)).getD i 0 := by
    intro l
    induction l with
    | nil => exact fun _ => ⟨rfl, rfl⟩
    | cons i l ih =>
      intro hl
      have hi := hl i List.mem_cons_self
      obtain ⟨e1, e2⟩ := ih fun j hj => hl j (List.mem_cons_of_mem _ hj)
      have g : (es.map (·.1)).getD i 0 = (L[i]).2.hash w := by
        have q : (es.map (·.1))[i]? = some ((L[i]).2.hash w) := by
          rw [Array.getElem?_map, at_ i hi]
          rfl
        simp [Array.getD_eq_getD_getElem?, q]
      rw [List.filterMap_cons_some (at_ i hi), List.filterMap_cons_some (List.getElem?_eq_getElem hi), e1, List.map_cons, ← e2, g]
      exact ⟨rfl, rfl⟩
  obtain ⟨e1, e2⟩ := go order.toList fun i hi => List.mem_range.mp (hp.mem_iff.mp hi)
  refine ⟨_, by first | (rw [Array.toList_filterMap]; exact e1) | simpa using e1, ?_, e2⟩
  have q := sub_ix L L.length (Nat.le_refl _)
  rw [List.take_length] at q
  have pm := hp.filterMap fun i => L[i]?
  rw [q] at pm
  exact pm
theorem relay_n {o : Obj} (ho : s.heap.get? a = some o) (hex : o.ExactSet) (hd : o.data = .set es ep t) (hr : es.toList = rwOf w L) (hp : t.place.size = L.length) (hdm : t.dummies = #[]) (hm : L.length ≤ t.mask) (nd : (L.map (·.2)).Nodup) (ks : ∀ p ∈ L, KeyA s.heap p.2 p.1) (pl : t.plain = true)
    (ld : w.params.followText "set-order" = true ∨ t.led = true) (fw : L.length < 64) {wt M : Nat} (hw : SetTable.sizeAbove wt - 1 = M) (hM : MaskOk M) (hw2 : SetTable.sizeAbove wt ≤ 128) (rm : L.length * 5 < M * 3) {Q : Unit → Shared → Prop}
    (q : ∀ h' L' es' ep' t', Heap.SameBut a s.heap h' → SetN w h' a L' es' ep' t' → L'.Perm L → Q () { s with heap := h' }) : wpAny (model P w) A (setRelay a wt) Q E s := by
  have zs := rows_size hr
  obtain ⟨t', order, e, pm, T, em, el, epl, edm⟩ := relaid_ok t (hs := es.map (·.1)) (wanted := wt) hw hM (by rw [Array.size_map, zs]; omega)
  rw [Array.size_map, zs] at pm
  obtain ⟨L2, r1, r2, r3⟩ := rows_moved hr pm
  rw [← r3] at T
  have z2 : (order.filterMap (es[·]?)).size = es.size := by rw [rows_size r1, r2.length_eq, zs]
  rw [setRelay_eq]
  refine wpAny_bind (wpAny_setState_of ho hd (fits_of hr hp hdm hm) ?_)
  dsimp only
  refine wp_if_neg (by rw [sizeLine_eq]; omega) ?_
  try refine wpAny_bind (wpAny_pure ?_)
  rw [e]
  dsimp only
  refine wpAny_bind ?_
  refine wp_if_neg (by rw [z2]; simp) ?_
  try refine wpAny_bind (wpAny_pure ?_)
  refine wpAny_pure ?_
  dsimp only
  refine wpAny_storeSet_of ho hd ?_ (by rw [z2, zs, sizeLine_eq]; omega)
  have sb : Heap.SameBut a s.heap (s.heap.update a (Obj.putSet (order.filterMap (es[·]?)) t')) := Heap.SameBut.update ..
  exact q _ L2 _ (ep + 1) t' sb ⟨⟨_, store_at ho hd, ⟨hex.1, hex.2.1, hex.2.2⟩, rfl⟩, r1, T, (r2.map (·.2)).nodup_iff.mpr nd, fun p hp => (ks p (r2.mem_iff.mp hp)).other ho hd sb, by rw [epl]; exact pl, by rw [el]; exact ld, by rw [r2.length_eq, em]; exact rm, by rw [r2.length_eq]; exact fw⟩ r2
theorem ins_perm {α : Type} (l : List α) (p : Nat) (x : α) : (l.take p ++ x :: l.drop p).Perm (x :: l) := by
  have h := List.perm_middle (a := x) (l₁ := l.take p) (l₂ := l.drop p)
  rw [List.take_append_drop] at h
  exact h
theorem add_n (R : SetN w s.heap a L es ep t) {x : Addr} {k : NestedKey} (hx : KeyA s.heap k x) (hu : A.units + 4 < cLine) (room : L.length + 1 < 64) {Q : Bool → Shared → Prop}
    (q : ∀ b h' L' es' ep' t', Heap.SameBut a s.heap h' → SetN w h' a L' es' ep' t' → (k ∈ L.map (·.2) → L' = L) → (k ∉ L.map (·.2) → L'.Perm ((x, k) :: L)) → Q b { s with heap := h' }) :
    wpAny (model P w) A (setAddHashed a (.ref x) (k.hash w)) Q E s := by
  obtain ⟨o, ho, hex, hd⟩ := R.ob
  have zs := R.sz
  have rm := R.rm
  unfold setAddHashed
  refine wpAny_holding ?_
  rw [show (100000 : Nat) = 99999 + 1 from rfl, setAddHashedIn_succ]
  refine wpAny_bind (wpAny_setState_of ho hd R.ft ?_)
  dsimp only
  refine wp_if_neg (by simp [byScan, Value.scannable]) ?_
  try refine wpAny_bind (wpAny_pure ?_)
  refine wpAny_bind (find_at R hx hu (fun hm => ?_) fun K hm kn kb => ?_)
  · dsimp only
    exact wpAny_pure (q false s.heap L es ep t (Heap.SameBut.refl a s.heap) R (fun _ => rfl) fun z => absurd hm z)
  dsimp only
  refine wpAny_bind (wpAny_setState_of ho hd R.ft ?_)
  dsimp only
  obtain ⟨u1, u2, u3, u4, u5, u6, _, _, u9⟩ := R.tb.put kn kb
  have plain1 : (t.put (way t.mask (k.hash w) K)).1.plain = true := by rw [u6]; exact R.pl
  generalize ept : t.put (way t.mask (k.hash w) K) = pt at u1 u3 u4 u5 u6 u9 plain1 ⊢
  obtain ⟨t1, p⟩ := pt
  dsimp only at u1 u3 u4 u5 u6 u9 plain1 ⊢
  subst u1
  have vl := (key_flat (P := P) (w := w) k _ 8 hx.is hx.num (by have := hx.dp; omega)).2
  first
    | (refine wpAny_bind ?_; refine wp_if_pos plain1 ?_; refine vl _ _ _ ?_)
    | refine wp_if_pos plain1 (wpAny_bind (vl _ _ _ ?_))
  simp only [if_true]
  have e1 : (SetTable.insertAt es (SetTable.below t.place (way t.mask (k.hash w) K)) (k.hash w, Value.ref x)).toList = rwOf w (L.take (SetTable.below t.place (way t.mask (k.hash w) K)) ++ (x, k) :: L.drop (SetTable.below t.place (way t.mask (k.hash w) K))) := by
    rw [SetTable.toList_insertAt, R.rw]
    unfold rwOf
    rw [List.map_append, List.map_cons, List.map_take, List.map_drop]
  generalize SetTable.below t.place (way t.mask (k.hash w) K) = p at u2 u3 e1 ⊢
  have pm := ins_perm L p (x, k)
  have ln : (L.take p ++ (x, k) :: L.drop p).length = L.length + 1 := pm.length_eq
  have eh : hsOf w (L.take p ++ (x, k) :: L.drop p) = (hsOf w L).take p ++ k.hash w :: (hsOf w L).drop p := by
    unfold hsOf
    rw [List.map_append, List.map_cons, List.map_take, List.map_drop]
  rw [← eh] at u3
  have nd1 : ((L.take p ++ (x, k) :: L.drop p).map (·.2)).Nodup := (pm.map (·.2)).nodup_iff.mpr (List.nodup_cons.mpr ⟨hm, R.nd⟩)
  generalize SetTable.insertAt es p (k.hash w, Value.ref x) = es1 at e1 ⊢
  generalize L.take p ++ (x, k) :: L.drop p = L1 at pm ln u3 nd1 e1
  have z1 : es1.size = L.length + 1 := by rw [rows_size e1, ln]
  refine wpAny_bind (wpAny_storeSet_of ho hd ?_ (by rw [z1, sizeLine_eq]; omega))
  have sb : Heap.SameBut a s.heap (s.heap.update a (Obj.putSet es1 t1)) := Heap.SameBut.update ..
  have ho1 := store_at (es' := es1) (t' := t1) ho hd
  generalize s.heap.update a (Obj.putSet es1 t1) = h1 at sb ho1 ⊢
  have ks1 : ∀ p ∈ L1, KeyA h1 p.2 p.1 := fun p hp => by
    rcases List.mem_cons.mp (pm.mem_iff.mp hp) with e | hp
    · rw [e]
      exact hx.other ho hd sb
    · exact (R.ks p hp).other ho hd sb
  have ld1 : w.params.followText "set-order" = true ∨ t1.led = true := by rw [u5]; exact R.ld
  have pz1 : t1.place.size = L1.length := u3.sz.trans (hsOf_len w L1)
  rw [hsOf_len] at u9
  by_cases full : t1.tooFull = true
  · first
      | (refine wpAny_bind ?_; refine wp_if_pos (by simp [full]) ?_)
      | (refine wp_if_pos (by simp [full]) ?_; refine wpAny_bind ?_)
    have f5 : (L.length + 1) * 5 ≥ t1.mask * 3 := by
      have z := full
      unfold SetTable.tooFull at z
      rw [decide_eq_true_eq, u9] at z
      exact z
    rw [zs]
    have two : (t.mask = 7 ∧ L.length = 4) ∨ (t.mask = 31 ∧ L.length = 18) := by
      rw [u4] at f5
      rcases R.tb.mok with e | e | e
      · exact .inl ⟨e, by omega⟩
      · exact .inr ⟨e, by omega⟩
      · omega
    have go : ∀ M, SetTable.sizeAbove (SetTable.grown (L.length + 1)) - 1 = M → MaskOk M → SetTable.sizeAbove (SetTable.grown (L.length + 1)) ≤ 128 → (L.length + 1) * 5 < M * 3 →
        wpAny (model P w) A (setRelay a (SetTable.grown (L.length + 1))) (fun _ s' => wpAny (model P w) A (pure true) Q E s') E { s with heap := h1 } := fun M g1 g2 g3 g4 =>
      relay_n (s := { s with heap := h1 }) ho1 ⟨hex.1, hex.2.1, hex.2.2⟩ rfl e1 pz1 u3.dm (by rw [ln, u4]; rcases two with ⟨z, y⟩ | ⟨z, y⟩ <;> omega) nd1 ks1 plain1 ld1 (by rw [ln]; exact room) g1 g2 g3 (by rw [ln]; exact g4)
        fun h2 L2 es2 ep2 t2 sb2 R2 pm2 => wpAny_pure (q true h2 L2 es2 ep2 t2 (sb.trans sb2) R2 (fun z => absurd z hm) fun _ => pm2.trans pm)
    rcases two with ⟨_, e⟩ | ⟨_, e⟩
    · exact go 31 (by rw [e, size_20]) (.inr (.inl rfl)) (by rw [e, size_20]; decide) (by omega)
    · exact go 127 (by rw [e, size_76]) (.inr (.inr rfl)) (by rw [e, size_76]; decide) (by omega)
  · first
      | refine wp_if_neg (by simp [full]) ?_
      | (refine wpAny_bind ?_; refine wp_if_neg (by simp [full]) ?_; refine wpAny_pure ?_)
    refine wpAny_pure (q true h1 L1 es1 (ep + 1) t1 sb ⟨⟨_, ho1, ⟨hex.1, hex.2.1, hex.2.2⟩, rfl⟩, e1, u3, nd1, ks1, plain1, ld1, ?_, by rw [ln]; exact room⟩ (fun z => absurd z hm) fun _ => pm)
    have z := full
    unfold SetTable.tooFull at z
    rw [decide_eq_true_eq, u9] at z
    rw [ln]
    omega
/-! ### set(xs) -/
/-- what the first i of ks have left -/
structure Upd (ks : KL) (i : Nat) (L : KL) : Prop where
  sub : ∀ p ∈ L, p ∈ ks.take i
  all : ∀ p ∈ ks.take i, p.2 ∈ L.map (·.2)
  len : L.length ≤ i
theorem take_snoc {α : Type} {l : List α} {i : Nat} {x : α} (h : l[i]? = some x) : l.take (i + 1) = l.take i ++ [x] := by
  rw [List.take_succ, h]
  rfl
theorem Upd.next {ks L L' : KL} {i : Nat} {x : Addr × NestedKey} (g : Upd ks i L) (h : ks[i]? = some x) (c1 : x.2 ∈ L.map (·.2) → L' = L) (c2 : x.2 ∉ L.map (·.2) → L'.Perm (x :: L)) : Upd ks (i + 1) L' := by
  have e := take_snoc h
  by_cases hm : x.2 ∈ L.map (·.2)
  · rw [c1 hm]
    refine ⟨fun p hp => ?_, fun p hp => ?_, Nat.le_succ_of_le g.len⟩
    · rw [e]
      exact List.mem_append_left _ (g.sub p hp)
    · rw [e] at hp
      rcases List.mem_append.mp hp with z | z
      · exact g.all p z
      · rw [List.mem_singleton.mp z]
        exact hm
  · have pm := c2 hm
    refine ⟨fun p hp => ?_, fun p hp => ?_, by rw [pm.length_eq]; exact Nat.succ_le_succ g.len⟩
    · rw [e]
      rcases List.mem_cons.mp (pm.mem_iff.mp hp) with z | z
      · rw [z]
        exact List.mem_append_right _ (List.mem_singleton_self _)
      · exact List.mem_append_left _ (g.sub p z)
    · rw [(pm.map (·.2)).mem_iff, List.map_cons]
      rw [e] at hp
      rcases List.mem_append.mp hp with z | z
      · exact List.mem_cons_of_mem _ (g.all p z)
      · rw [List.mem_singleton.mp z]
        exact List.mem_cons_self
theorem KeyA.grow {h h' : Heap} {k : NestedKey} {b : Addr} (x : KeyA h k b) (hk : ∀ c o, h.get? c = some o → h'.get? c = some o) : KeyA h' k b := x.keep fun c o _ _ e _ => hk c o e
theorem SetN.grow {h h' : Heap} (R : SetN w h a L es ep t) (ha : ∀ o, h.get? a = some o → h'.get? a = some o) (hk : ∀ p ∈ L, KeyA h' p.2 p.1) : SetN w h' a L es ep t := by
  obtain ⟨o, ho, r⟩ := R.ob
  exact ⟨⟨o, ha o ho, r⟩, R.rw, R.tb, R.nd, hk, R.pl, R.ld, R.rm, R.fw⟩
theorem setN_new {h : Heap} (ho : h.get? a = some (freshSet w)) : SetN w h a [] #[] 0 (.fresh 0 0 (!w.params.followText "set-order")) := by
  refine ⟨⟨_, ho, ⟨rfl, rfl, rfl⟩, rfl⟩, rfl, ⟨List.Pairwise.nil, rfl, rfl, .inl rfl, fun x hx => (by cases hx), fun i h j hi => (by simp [hsOf] at hi)⟩, List.nodup_nil, fun p hp => (by cases hp), rfl, ?_, ?_, ?_⟩
  · change _ ∨ (!w.params.followText "set-order") = true
    cases w.params.followText "set-order"
    · exact .inr rfl
    · exact .inl rfl
  · change 0 * 5 < 7 * 3
    decide
  · change 0 < 64
    decide
end
end RT
end
section
set_option Elab.async false
set_option linter.all false
set_option maxRecDepth 100000
set_option maxHeartbeats 6400000
namespace RT
open PySem PySem.Spec PyProof.Rows L2
section
variable {P : Program} {w : World} {A : Around} {E : Value → Shared → Prop} {s : Shared}
theorem update_n {I : Addr} {fp wr : List Addr} {G : Array GenState → Array GenState → Prop} {n : Nat} {Pv : Nat → Value → Prop} {St : Nat → Shared → Prop} {R : Result → Shared → Prop} (W : WalksS P w A.in1 I fp wr G n Pv St) (S : Addr) (ns : S ∉ fp) (ks : KL) (en : n = ks.length) (fw : ks.length < 64)
    (vals : ∀ i v, Pv i v → ∃ p, ks[i]? = some p ∧ v = .ref p.1) (h0 : Heap) (hk : ∀ p ∈ ks, KeyA h0 p.2 p.1) (s0 : h0.get? S = none) (w0 : ∀ b ∈ wr, h0.get? b = none) (hu : A.in1.units + 4 < cLine) :
    ∀ (d i : Nat) (s : Shared), n - i = d → i ≤ n → St i s → (∀ b o, h0.get? b = some o → s.heap.get? b = some o) → (∃ L es ep t, SetN w s.heap S L es ep t ∧ Upd ks i L) →
      (∀ s' L es ep t, Moved (S :: wr) G s s' → SetN w s'.heap S L es ep t → Upd ks n L → (∀ b o, h0.get? b = some o → s'.heap.get? b = some o) → R (.ok (.ret .none)) s') →
      codeAny (model P w) A (.builtin "set.update.loop" ⟨[.ref S, .ref I], []⟩) R s := by
  have nw : S ∉ wr := fun h => ns (W.sub _ h)
  have up : ∀ b ∈ wr, b ∈ S :: wr := fun b hb => List.mem_cons_of_mem _ hb
  have stays : ∀ {x y : Shared}, Moved wr G x y → (∀ b o, h0.get? b = some o → x.heap.get? b = some o) → ∀ b o, h0.get? b = some o → y.heap.get? b = some o := fun hm hx b o e =>
    hm.heap b o (fun hb => by rw [w0 b hb] at e; cases e) (hx b o e)
  intro d
  induction d with
  | zero =>
    intro i s hd hi st kp ⟨L, es, ep, t, hS, g⟩ hR
    obtain rfl : i = n := by omega
    refine codeAny_builtin F.entry_set_update_loop ?_
    rw [Around.under_plainId F.plain_set_update_loop _]
    change wpAny _ A.in1 (pyNext (.ref I) >>= _) _ _ s
    refine wpAny_bind (W.done s _ _ st fun y hm => ?_)
    change wpAny _ A.in1 (ret Value.none) _ _ y
    have ky := stays hm kp
    exact wpAny_pure (hR y L es ep t (hm.mono up) (hS.grow (fun o e => hm.heap S o nw e) fun p hp => (hk p (List.mem_of_mem_take (g.sub p hp))).grow ky) g ky)
  | succ d ih =>
    intro i s hd hi st kp ⟨L, es, ep, t, hS, g⟩ hR
    have lt : i < n := by omega
    refine codeAny_builtin F.entry_set_update_loop ?_
    rw [Around.under_plainId F.plain_set_update_loop _]
    change wpAny _ A.in1 (pyNext (.ref I) >>= _) _ _ s
    refine wpAny_bind (W.item i s _ _ lt st fun v y hP sty hm => ?_)
    obtain ⟨p, hp, ev⟩ := vals i v hP
    subst ev
    have ky := stays hm kp
    have hS1 : SetN w y.heap S L es ep t := hS.grow (fun o e => hm.heap S o nw e) fun q hq => (hk q (List.mem_of_mem_take (g.sub q hq))).grow ky
    have hx : KeyA y.heap p.2 p.1 := (hk p (List.mem_of_getElem? hp)).grow ky
    change wpAny _ A.in1 (holding [Value.ref p.1] (setAdd S (.ref p.1)) >>= _) _ _ y
    refine wpAny_bind (wpAny_holding ?_)
    unfold setAdd
    refine wpAny_holding ?_
    refine wpAny_bind (pyHash_key _ _ _ _ _ hx.is (by have := hx.dp; omega) ?_)
    refine add_n (s := { y with toks := y.toks + p.2.draws }) hS1 hx hu (by have := g.len; omega) fun b h' L' es' ep' t' sb hS2 c1 c2 => ?_
    have g' := g.next hp c1 c2
    have k2 : ∀ b o, h0.get? b = some o → h'.get? b = some o := fun b o e => (sb.2 b (fun z => by rw [z, s0] at e; cases e)).trans (ky b o e)
    refine wpAny_pure ⟨plainId_quiet F.plain_set_update_loop _, ih (i + 1) _ (by omega) lt (W.frame _ y _ _ sty (Nat.le_add_right _ _) fun b hb o e => ?_) k2 ⟨L', es', ep', t', hS2, g'⟩ fun z L2 es2 ep2 t2 hm2 hS3 g3 k3 => ?_⟩
    · rw [sb.2 b (fun e' : b = S => ns (by rw [← e']; exact hb))]
      exact e
    · refine hR z L2 es2 ep2 t2 (Moved.trans W.gtrans ((hm.mono up).then_heap (Nat.le_add_right _ _) fun b o hb e => ?_) hm2) hS3 g3 k3
      rw [sb.2 b (fun e' : b = S => hb (by rw [e']; exact List.mem_cons_self))]
      exact e
theorem set_of_keys {l : Addr} {items : Array Value} (ks : KL) {Q : Value → Shared → Prop} (calm : A.handled = none) (isl : s.heap.IsList l items) (hit : items.toList = ks.map fun p => Value.ref p.1) (hk : ∀ p ∈ ks, KeyA s.heap p.2 p.1) (fw : ks.length < 64) (hu : A.units + 8 < cLine)
    (q : ∀ (h' : Heap) (tk : Nat) L es ep t, SetN w h' s.heap.objs.size L es ep t → Upd ks ks.length L → (∀ b o, s.heap.get? b = some o → h'.get? b = some o) → Q (.ref s.heap.objs.size) { s with heap := h', toks := tk }) :
    wpAny (model P w) A (call (.type "set") [.ref l]) Q E s := by
  have sz : items.size = ks.length := by
    have e := congrArg List.length hit
    rw [Array.length_toList, List.length_map] at e
    exact e
  obtain ⟨c0, tl0, hm0⟩ := F.called_set.mro
  have q1 := F.called_set.made
  have q2 := F.called_set.sub
  refine wpAny_call (codeAny_of_tree ?_)
  change wpAny _ _ (callAny (.type "set") _) _ _ _
  refine wpAny_pure ⟨Code.quiet_builtin _ (by decide +kernel), codeAny_builtin F.entry_type_call ?_⟩
  rw [Around.under_plain (weight_type_call_type "set" [.ref l] []) rfl]
  have q3 := F.called_set.notType
  have q4 := F.called_set.canCreate
  have q5 := F.typeCall_set_1 (.ref l)
  repeat (any_goals (first | assumption | wp_step))
  refine codeAny_mono (code_set_led1 (.ref l) (E := E) (Q₁ := fun obj s₁ => obj = .ref s.heap.objs.size ∧ s₁ = { s with heap := s.heap.push (freshSet w) }) ⟨rfl, rfl⟩) fun r s₁ hr => ?_
  match r, hr with
  | .error _, hr => exact hr
  | .ok (.next), hr => exact hr.elim
  | .ok (.brk), hr => exact hr.elim
  | .ok (.cont), hr => exact hr.elim
  | .ok (.ret obj), hr =>
    obtain ⟨eo, es⟩ := hr
    subst eo
    subst es
    have at0 : (s.heap.push (freshSet w)).get? s.heap.objs.size = some (freshSet w) := Heap.get?_push_size _ rfl
    have ty0 : Shared.TypeIs { s with heap := s.heap.push (freshSet w) } (.ref s.heap.objs.size) "set" := ⟨_, at0, rfl⟩
    have q6 := F.called_set.init.lookup
    have q7 := F.called_set.init.bind (.ref s.heap.objs.size)
    repeat (any_goals (first | assumption | wp_step))
    refine codeAny_mono (codeAny_call_builtin (R := wants (fun r s₂ => r = .none ∧ ∃ h' tk L es ep t, s₂ = { s with heap := h', toks := tk } ∧ SetN w h' s.heap.objs.size L es ep t ∧ Upd ks ks.length L ∧ ∀ b o, s.heap.get? b = some o → h'.get? b = some o) E) F.called_set.init.plain F.entry_set_init (check_set_init_1 ty0 ?_)) fun r₂ s₂ hr₂ => ?_
    · obtain ⟨⟨oc, od, oda, osl⟩, hol, hcl, nl, hdl⟩ := isl
      have ecl : oc = .type "list" := hcl
      have eda : oda = .seq items nl := hdl
      subst ecl
      subst eda
      have hol' : (s.heap.push (freshSet w)).get? l = some { cls := .type "list", dict := od, data := .seq items nl, slots := osl } := Heap.get?_push_of_some _ hol
      have q8 := F.sub_list_set
      have q9 := F.sub_list_frozenset
      have q10 : (Value.type "list" == Value.type "dict") = false := by decide
      have isl1 : (s.heap.push (freshSet w)).IsList l items := ⟨_, hol', rfl, nl, rfl⟩
      unfold Builtin.«set.__init__» noKeywords Builtin.Frozenset.updateFrom
      generalize eI : pyIter = PI
      wp_walk
      subst eI
      refine wpAny_pyIter_list isl1 ?_
      refine wpAny_bind (wpAny_runValue ?_)
      have lt0 : l < s.heap.objs.size := Heap.lt_size hol
      have calm3 : A.in1.in1.in1.handled = none := by simp [calm]
      have size1 : (s.heap.push (freshSet w)).objs.size = s.heap.objs.size + 1 := Heap.size_push ..
      have apart : l ≠ (s.heap.push (freshSet w)).objs.size := by
        rw [size1]
        exact Nat.ne_of_lt (Nat.lt_succ_of_lt lt0)
      have notIn : s.heap.objs.size ∉ [(s.heap.push (freshSet w)).objs.size, l] := by
        rw [size1]
        simp only [List.mem_cons, List.not_mem_nil, or_false, not_or]
        exact ⟨Nat.ne_of_lt (Nat.lt_succ_self _), Nat.ne_of_gt lt0⟩
      have vals : ∀ (i : Nat) (v : Value), items[i]? = some v → ∃ p, ks[i]? = some p ∧ v = .ref p.1 := fun i v hv => by
        have e : items.toList[i]? = some v := by rw [Array.getElem?_toList]; exact hv
        rw [hit, List.getElem?_map] at e
        obtain ⟨p, hp, ep⟩ := Option.map_eq_some_iff.mp e
        exact ⟨p, hp, ep.symm⟩
      have beyond : ∀ b, s.heap.objs.size ≤ b → s.heap.get? b = none := fun b hb => by
        cases e : s.heap.get? b with
        | none => rfl
        | some o => exact absurd (Heap.lt_size e) (Nat.not_lt.mpr hb)
      refine update_n ((Walks.list calm3 _ l apart items).toS) s.heap.objs.size notIn ks sz fw vals s.heap hk (beyond _ (Nat.le_refl _)) (fun b hb => beyond b (by rw [List.mem_singleton.mp hb, size1]; exact Nat.le_succ _)) (by simp; omega) (items.size - 0) 0 _ (by omega) (Nat.zero_le _)
        ⟨⟨_, Heap.get?_push_size _ rfl, rfl, rfl⟩, isl1.push _⟩ (fun b o e => Heap.get?_push_of_some _ (Heap.get?_push_of_some _ e)) ?first ?last
      case first =>
        have g : ((s.heap.push (freshSet w)).push { cls := .type "list_iterator", data := .fields #[.ref l, .int 0 0] }).get? s.heap.objs.size = some (freshSet w) := Heap.get?_push_of_some _ at0
        exact ⟨[], #[], 0, _, setN_new g, ⟨fun p hp => (by cases hp), fun p hp => (by simp at hp), Nat.le_refl _⟩⟩
      case last =>
        intro s' L es ep t hm hS g kp
        obtain ⟨h', g2, d', tk', os'⟩ := s'
        have e1 : g2 = s.gens := hm.gens
        have e2 : d' = s.drawn := hm.drawn
        have e3 : os' = s.os := hm.os
        subst e1
        subst e2
        subst e3
        refine wpAny_pure ?_
        change wpAny _ _ (ret Value.none) _ _ _
        rw [sz] at g
        exact wpAny_pure ⟨rfl, h', tk', L, es, ep, t, rfl, hS, g, kp⟩
    · match r₂, hr₂ with
      | .error _, hr₂ => exact hr₂
      | .ok (.next), hr₂ => exact hr₂.elim
      | .ok (.brk), hr₂ => exact hr₂.elim
      | .ok (.cont), hr₂ => exact hr₂.elim
      | .ok (.ret _), hr₂ =>
        obtain ⟨e0, h', tk, L, es, ep, t, e1, hS, g, kp⟩ := hr₂
        subst e0
        subst e1
        repeat (any_goals (first | assumption | wp_step))
        exact q _ _ _ _ _ _ hS g kp
end
end RT
end
section
set_option Elab.async false
set_option linter.all false
set_option maxRecDepth 100000
set_option maxHeartbeats 6400000
/-! ### sorted of tuples of tuples of ints; of a set of such -/
namespace RT
open PySem PySem.Spec PyProof.Rows L2
def lexC : List (List Int) → List (List Int) → Bool
  | [], [] => false
  | _ :: _, [] => false
  | [], _ :: _ => true
  | a :: r, b :: s => if a = b then lexC r s else HT.lexLt a b
def lexCG (fin : Bool) : List (List Int) → List (List Int) → Bool
  | a :: r, b :: s => if a = b then lexCG fin r s else HT.lexLt a b
  | _, _ => fin
theorem lexCG_eq : ∀ xs ys : List (List Int), lexCG (decide (xs.length < ys.length)) xs ys = lexC xs ys
  | [], [] => rfl
  | [], _ :: _ => by simp [lexCG, lexC]
  | _ :: _, [] => by simp [lexCG, lexC]
  | x :: xs, y :: ys => by
    have ih := lexCG_eq xs ys
    simp only [lexCG, lexC, List.length_cons, Nat.add_lt_add_iff_right]
    rw [ih]
theorem lt_asym : ∀ xs ys : List Int, HT.lexLt xs ys = true → HT.lexLt ys xs = false
  | [], [], h => by cases h
  | _ :: _, [], h => by cases h
  | [], _ :: _, _ => rfl
  | x :: xs, y :: ys, h => by
    unfold HT.lexLt at h ⊢
    by_cases e : x = y
    · subst e
      rw [if_pos rfl] at h ⊢
      exact lt_asym xs ys h
    · rw [if_neg e, decide_eq_true_eq] at h
      rw [if_neg (Ne.symm e), decide_eq_false_iff_not]
      omega
theorem lt_tr : ∀ xs ys zs : List Int, HT.lexLt ys xs = false → HT.lexLt zs ys = false → HT.lexLt zs xs = false
  | [], _, [], _, _ => rfl
  | [], _, _ :: _, _, _ => rfl
  | x :: xs, [], zs, h, _ => by cases h
  | x :: xs, y :: ys, [], _, h => by cases h
  | x :: xs, y :: ys, z :: zs, h1, h2 => by
    unfold HT.lexLt at h1 h2 ⊢
    by_cases e1 : y = x
    · subst e1
      rw [if_pos rfl] at h1
      by_cases e2 : z = y
      · subst e2
        rw [if_pos rfl] at h2 ⊢
        exact lt_tr xs ys zs h1 h2
      · rw [if_neg e2] at h2 ⊢
        exact h2
    · rw [if_neg e1, decide_eq_false_iff_not] at h1
      by_cases e2 : z = y
      · subst e2
        rw [if_neg e1, decide_eq_false_iff_not]
        omega
      · rw [if_neg e2, decide_eq_false_iff_not] at h2
        rw [if_neg (by omega), decide_eq_false_iff_not]
        omega
theorem lt_eq : ∀ xs ys : List Int, HT.lexLt xs ys = false → HT.lexLt ys xs = false → xs = ys
  | [], [], _, _ => rfl
  | [], _ :: _, h, _ => by cases h
  | _ :: _, [], _, h => by cases h
  | x :: xs, y :: ys, h1, h2 => by
    unfold HT.lexLt at h1 h2
    by_cases e : x = y
    · subst e
      rw [if_pos rfl] at h1 h2
      rw [lt_eq xs ys h1 h2]
    · rw [if_neg e, decide_eq_false_iff_not] at h1
      rw [if_neg (Ne.symm e), decide_eq_false_iff_not] at h2
      omega
theorem lexC_asym : ∀ xs ys : List (List Int), lexC xs ys = true → lexC ys xs = false
  | [], [], h => by cases h
  | _ :: _, [], h => by cases h
  | [], _ :: _, _ => rfl
  | x :: xs, y :: ys, h => by
    unfold lexC at h ⊢
    by_cases e : x = y
    · subst e
      rw [if_pos rfl] at h ⊢
      exact lexC_asym xs ys h
    · rw [if_neg e] at h
      rw [if_neg (Ne.symm e)]
      exact lt_asym _ _ h
theorem lexC_eq : ∀ xs ys : List (List Int), lexC xs ys = false → lexC ys xs = false → xs = ys
  | [], [], _, _ => rfl
  | [], _ :: _, h, _ => by cases h
  | _ :: _, [], _, h => by cases h
  | x :: xs, y :: ys, h1, h2 => by
    unfold lexC at h1 h2
    by_cases e : x = y
    · subst e
      rw [if_pos rfl] at h1 h2
      rw [lexC_eq xs ys h1 h2]
    · rw [if_neg e] at h1
      rw [if_neg (Ne.symm e)] at h2
      exact absurd (lt_eq _ _ h1 h2) e
theorem lexC_tr : ∀ xs ys zs : List (List Int), lexC ys xs = false → lexC zs ys = false → lexC zs xs = false
  | [], _, [], _, _ => rfl
  | [], _, _ :: _, _, _ => rfl
  | x :: xs, [], zs, h, _ => by cases h
  | x :: xs, y :: ys, [], _, h => by cases h
  | x :: xs, y :: ys, z :: zs, h1, h2 => by
    unfold lexC at h1 h2 ⊢
    by_cases e1 : y = x
    · subst e1
      rw [if_pos rfl] at h1
      by_cases e2 : z = y
      · subst e2
        rw [if_pos rfl] at h2 ⊢
        exact lexC_tr xs ys zs h1 h2
      · rw [if_neg e2] at h2 ⊢
        exact h2
    · rw [if_neg e1] at h1
      by_cases e2 : z = y
      · subst e2
        rw [if_neg e1]
        exact h1
      · rw [if_neg e2] at h2
        have h3 := lt_tr _ _ _ h1 h2
        by_cases e3 : z = x
        · subst e3
          exact absurd (lt_eq _ _ h1 h2).symm e2
        · rw [if_neg e3]
          exact h3
theorem swo_lexC {α : Type} (k : α → List (List Int)) : SrtO.Swo fun x y => lexC (k x) (k y) := ⟨fun x y h => lexC_asym _ _ h, fun x y z h1 h2 => lexC_tr _ _ _ h1 h2⟩
/-- the keys of such tuples -/
def intK (ns : List Int) : NestedKey := .tup (ns.map .num)
def covK (t : List (List Int)) : NestedKey := .tup (t.map intK)
theorem intK_inj {a b : List Int} (h : intK a = intK b) : a = b := by
  injection h with h
  exact (List.map_inj_right fun x y e => by injection e).mp h
theorem covK_inj {a b : List (List Int)} (h : covK a = covK b) : a = b := by
  injection h with h
  exact (List.map_inj_right fun x y e => intK_inj e).mp h
theorem numKs_num : ∀ ns : List Int, numKs (ns.map .num) = true
  | [] => rfl
  | _ :: ns => by simp [numKs, numK, numKs_num ns]
theorem numK_int (ns : List Int) : numK (intK ns) = true := by
  unfold intK numK
  exact numKs_num ns
theorem numKs_cov : ∀ t : List (List Int), numKs (t.map intK) = true
  | [] => rfl
  | ns :: t => by
    have h := numKs_cov t
    rw [List.map_cons]
    unfold numKs
    rw [numK_int, h]
    rfl
theorem numK_cov (t : List (List Int)) : numK (covK t) = true := by
  unfold covK numK
  exact numKs_cov t
theorem dp_nums : ∀ ns : List Int, NestedKey.depthAll (ns.map .num) = 0
  | [] => rfl
  | n :: ns => by
    rw [List.map_cons]
    unfold NestedKey.depthAll
    rw [dp_nums ns]
    rfl
theorem dp_int (ns : List Int) : (intK ns).depth = 1 := by
  unfold intK NestedKey.depth
  rw [dp_nums]
theorem dp_covs : ∀ t : List (List Int), NestedKey.depthAll (t.map intK) ≤ 1
  | [] => Nat.zero_le _
  | ns :: t => by
    have h := dp_covs t
    rw [List.map_cons]
    unfold NestedKey.depthAll
    rw [dp_int]
    omega
theorem dp_cov (t : List (List Int)) : (covK t).depth ≤ 2 := by
  have := dp_covs t
  unfold covK NestedKey.depth
  omega
inductive TupNs (h : Heap) : List Value → List (List Int) → Prop
  | nil : TupNs h [] []
  | cons {v : Value} {vs : List Value} {ns : List Int} {t : List (List Int)} {a : Addr} {o : Obj} {xs : Array Value} {n : Nat} : v = .ref a → h.get? a = some o → o.cls = .type "tuple" → o.data = .seq xs n → IntsAre xs.toList ns → TupNs h vs t → TupNs h (v :: vs) (ns :: t)
/-- the value is a tuple of tuples of ints -/
def TupC (h : Heap) (v : Value) (t : List (List Int)) : Prop := ∃ a o xs n, v = .ref a ∧ h.get? a = some o ∧ o.cls = .type "tuple" ∧ o.data = .seq xs n ∧ TupNs h xs.toList t
theorem TupNs.keeps {h h' : Heap} (k : ∀ b o, h.get? b = some o → o.cls = .type "tuple" → h'.get? b = some o) : ∀ {vs : List Value} {t : List (List Int)}, TupNs h vs t → TupNs h' vs t
  | _, _, .nil => .nil
  | _, _, .cons e ho hc hd i r => .cons e (k _ _ ho hc) hc hd i (r.keeps k)
theorem TupC.keeps {h h' : Heap} {v : Value} {t : List (List Int)} (x : TupC h v t) (k : ∀ b o, h.get? b = some o → o.cls = .type "tuple" → h'.get? b = some o) : TupC h' v t := by
  obtain ⟨a, o, xs, n, e, ho, hc, hd, i⟩ := x
  exact ⟨a, o, xs, n, e, k _ _ ho hc, hc, hd, i.keeps k⟩
theorem TupNs.len {h : Heap} : ∀ {vs : List Value} {t : List (List Int)}, TupNs h vs t → vs.length = t.length
  | _, _, .nil => rfl
  | _, _, .cons _ _ _ _ _ r => congrArg Nat.succ r.len
theorem nums_is {h : Heap} : ∀ {vs : List Value} {ns : List Int}, IntsAre vs ns → NestedAll h (ns.map .num) vs
  | _, _, .nil => .nil
  | _, _, .cons n t r => .cons (.int n t) (nums_is r)
theorem TupNs.all {h : Heap} : ∀ {vs : List Value} {t : List (List Int)}, TupNs h vs t → NestedAll h (t.map intK) vs
  | _, _, .nil => .nil
  | _, _, .cons e ho hc hd i r => by
    subst e
    exact .cons (.tup ho hc hd (nums_is i)) r.all
theorem TupC.key {h : Heap} {a : Addr} {t : List (List Int)} (x : TupC h (.ref a) t) : KeyA h (covK t) a := by
  obtain ⟨a', o, xs, n, e, ho, hc, hd, i⟩ := x
  injection e with e
  subst e
  exact ⟨.tup ho hc hd i.all, numK_cov t, by have := dp_cov t; omega⟩
section
variable {prog : Program} {w : World} {A : Around} {s : Shared} {Q : Bool → Shared → Prop} {E : Value → Shared → Prop}
theorem kat_tups {fin : Bool} (hu : A.units + 4 < cLine) : ∀ {xs ys : List Value} {t u : List (List Int)} (i : Nat), TupNs s.heap xs t → TupNs s.heap ys u → Q (lexCG fin t u) s → PySem.W.KatLex prog w A false fin Q (xs.zip ys) i s
  | _, _, _, _, i, .nil, _, h => PySem.W.kat_nil h
  | _, _, _, _, i, .cons .., .nil, h => PySem.W.kat_nil h
  | _, _, _, _, i, .cons (a := a) (ns := ns) e ho hc hd hi hx, .cons (a := b) (ns := ms) e' ho' hc' hd' hi' hy, h => by
    subst e
    subst e'
    unfold lexCG at h
    refine PySem.W.kat_cons (eqAt_key (intK ns) (intK ms) A s _ _ (.tup ho hc hd (nums_is hi)) (.tup ho' hc' hd' (nums_is hi')) (by rw [dp_int]; omega) prog w _ _ ?_)
    rw [← NestedKey.decide_eq]
    refine PySem.W.kat_go (fun e => ?_) (fun e => ?_)
    · have e' : ns = ms := intK_inj (of_decide_eq_true e)
      rw [if_pos e'] at h
      exact PySem.W.kat_yes (kat_tups hu (i + 1) hx hy h)
    · have e' : ¬ ns = ms := fun q => of_decide_eq_false e (by rw [q])
      rw [if_neg e'] at h
      refine PySem.W.kat_no ?_
      refine PySem.W.kat_one _ _ (HT.lt_tupInts ⟨_, ho, hc, _, hd⟩ ⟨_, ho', hc', _, hd'⟩ hi hi' (by omega) ?_)
      exact h
theorem tupc_cmp (hu : A.units + 4 < cLine) {vs : List Value} {k : Value → List (List Int)} (hp : ∀ v ∈ vs, TupC s.heap v (k v)) : SrtO.Cmp prog w A s (tuples' false) (fun p => p.1 ∈ vs) (SrtO.lt2 fun v u => lexC (k v) (k u)) := by
  intro p q hm hm'
  obtain ⟨a, o, xs, n, e, ho, hc, hd, i⟩ := hp _ hm
  obtain ⟨a', o', xs', n', e', ho', hc', hd', i'⟩ := hp _ hm'
  show wpAny (model prog w) A (keyLt' (tuples' false) p.1 q.1) (fun r s' => s' = s ∧ r = lexC (k p.1) (k q.1)) (fun _ _ => False) s
  generalize k p.1 = t at i ⊢
  generalize k q.1 = u at i' ⊢
  rw [e, e']
  refine PySem.W.kat_lt ho hd ho' hd' ?_
  refine kat_tups hu 0 i i' ⟨rfl, ?_⟩
  rw [← lexCG_eq]
  have l1 : xs.size = t.length := by rw [← Array.length_toList]; exact i.len
  have l2 : xs'.size = u.length := by rw [← Array.length_toList]; exact i'.len
  rw [l1, l2]
theorem tupc_firsts {h : Heap} {k : Value → List (List Int)} : ∀ {vs : List Value}, (∀ v ∈ vs, TupC h v (k v) ∧ k v ≠ []) → ∃ fs : List Value, PySem.W.KatTups h vs fs ∧ fs.length = vs.length ∧ ∀ f ∈ fs, ∃ b o, f = Value.ref b ∧ h.get? b = some o ∧ o.cls = .type "tuple"
  | [], _ => ⟨[], PySem.W.KatTups.nil, rfl, fun _ hm => by simp at hm⟩
  | v :: vs, hp => by
    obtain ⟨fs, h1, h2, h3⟩ := tupc_firsts (vs := vs) fun v' hm => hp v' (List.mem_cons_of_mem _ hm)
    obtain ⟨⟨a, o, xs, n, e, ho, hc, hd, i⟩, hne⟩ := hp v List.mem_cons_self
    generalize k v = t at i hne
    obtain ⟨items⟩ := xs
    cases i with
    | nil => exact absurd rfl hne
    | cons e2 ho2 hc2 hd2 hi hx =>
      subst e
      subst e2
      refine ⟨_ :: fs, PySem.W.KatTups.cons ho hc hd rfl h1, by rw [List.length_cons, List.length_cons, h2], fun f hm => ?_⟩
      rcases List.mem_cons.mp hm with rfl | hm
      · exact ⟨_, _, rfl, ho2, hc2⟩
      · exact h3 f hm
theorem tupc_sortable (hu : A.units + 4 < cLine) {a : Addr} {vs : List Value} {k : Value → List (List Int)} (h0 : 0 < vs.length) (hp : ∀ v ∈ vs, TupC s.heap v (k v) ∧ k v ≠ []) (ha : ∀ o, s.heap.get? a = some o → o.cls ≠ .type "tuple") : SrtO.SortableO prog w A s a vs fun v u => lexC (k v) (k u) := by
  intro h' keep
  have hp' : ∀ v ∈ vs, TupC h' v (k v) ∧ k v ≠ [] := fun v hm => ⟨(hp v hm).1.keeps fun b o e c => keep b o (fun z => by subst z; exact ha o e c) e, (hp v hm).2⟩
  obtain ⟨fs, h1, h2, h3⟩ := tupc_firsts hp'
  refine ⟨tuples' false, fun Q E hq => ?_, tupc_cmp hu fun v hm => (hp' v hm).1⟩
  refine PySem.W.kat_kind (s := { s with heap := h' }) (T := .type "tuple") h1 (by omega) (fun f hm => ?_) (by rfl) ?_
  · obtain ⟨b, o, rfl, ho, hc⟩ := h3 f hm
    rw [← hc]
    exact (PySem.W.Looks.ld ho).andThen .now
  · have e : (Value.type "tuple" != Value.type "tuple") = false := by first | decide +kernel | rfl | decide
    rw [e]
    exact hq
end
end RT
end
section
set_option Elab.async false
set_option linter.all false
set_option maxRecDepth 100000
set_option maxHeartbeats 6400000
/-! ### sorted(x), x whatever can be collected; set() and sorted() of tuples of tuples, over the layer -/
namespace RT
open PySem PySem.Spec PyProof.Rows L2
section
variable {prog : Program} {w : World} {A : Around} {s : Shared} {E : Value → Shared → Prop}
def Later (s s1 : Shared) : Prop := (∀ b o, s.heap.get? b = some o → s1.heap.get? b = some o) ∧ s.heap.objs.size ≤ s1.heap.objs.size ∧ s1.gens = s.gens ∧ s1.os = s.os
def Coll (prog : Program) (w : World) (A : Around) (E : Value → Shared → Prop) (s : Shared) (x : Value) (P : List Value → Prop) : Prop := ∀ Q : List Value → Shared → Prop, (∀ s1 vs, Later s s1 → P vs → Q vs s1) → wpAny (model prog w) A (collect x) Q E s
theorem sorted_any {x : Value} {P : List Value → Prop} {ltv : Value → Value → Bool} {Q : Value → Shared → Prop} (O : SrtO.Swo ltv) (hC : Coll prog w A.in1 E s x P) (hz : ∀ vs, P vs → vs.length ≤ sizeLine)
    (hS : ∀ vs, P vs → 2 ≤ vs.length → ∀ (s1 : Shared) (a : Addr), (∀ b o, s.heap.get? b = some o → s1.heap.get? b = some o) → s1.heap.get? a = some (seqObj "list" vs.toArray 0) → SrtO.SortableO prog w A.in1.in1 s1 a vs ltv)
    (hQ : ∀ s' p vs (out : List Value) c, P vs → SrtO.Srtd ltv out → SrtO.Stb ltv out vs → Later s s' → s.heap.objs.size ≤ p → s'.heap.get? p = some (seqObj "list" out.toArray c) → Q (.ref p) s') :
    wpAny (model prog w) A (call (.builtin "sorted") [x]) Q E s := by
  refine Calls.call_function_entry kind_sorted plain_sorted entry_sorted (args_sorted1 _) ?_
  unfold Builtin.«sorted»
  refine wpAny_bind (m := checkCount "sorted" 1 1 _) (wpAny_pure ?_)
  refine wpAny_bind (hC _ fun s1 vs l1 hP => ?_)
  obtain ⟨k1, z1, g1, o1⟩ := l1
  have hv := hz vs hP
  refine wpAny_bind (wpAny_newList ?_ hv)
  have hoL : (s1.heap.push (seqObj "list" vs.toArray 0)).get? s1.heap.objs.size = some (seqObj "list" vs.toArray 0) := Heap.get?_push_size _ rfl
  refine wpAny_bind (wpAny_holding (wpAny_call_entry slot_list_sort ⟨_, hoL, rfl⟩ entry_list_sort (SrtO.list_sort_ord (s := { s1 with heap := s1.heap.push (seqObj "list" vs.toArray 0) }) O hoL hv (fun h2 => hS vs hP h2 _ _ (fun b o e => Heap.get?_push_of_some _ (k1 b o e)) hoL) fun out hs hb => ⟨_, rfl, ?_⟩) (args_list_sort _)))
  obtain ⟨c, hc⟩ := sortedHeap_at (vs := vs) (out := out.toArray) hoL
  refine wpAny_pure ⟨_, rfl, hQ _ s1.heap.objs.size vs out c hP hs hb ⟨fun b u e => ?_, ?_, g1, o1⟩ z1 hc⟩
  · have e1 := k1 b u e
    have lt := Heap.lt_size e1
    show (sortedHeap (s1.heap.push (seqObj "list" vs.toArray 0)) s1.heap.objs.size vs out.toArray).get? b = some u
    rw [sortedHeap_old (Nat.ne_of_lt lt) (by rw [size_push']; exact Nat.lt_succ_of_lt lt)]
    exact Heap.get?_push_of_some _ e1
  · refine Nat.le_trans z1 (Nat.le_of_lt (Heap.lt_size hc))
/-- a tuple, collected -/
theorem coll_tuple {l : Addr} {o : Obj} {vs : List Value} {n : Nat} (ho : s.heap.get? l = some o) (hc : o.cls = .type "tuple") (hd : o.data = .seq vs.toArray n) (hz : vs.length ≤ sizeLine) : Coll prog w A E s (.ref l) fun us => us = vs := by
  intro Q q
  unfold collect
  refine wpAny_bind (wpAny_runValue (codeAny_builtin entry_proto_collect' ?_))
  change wpAny _ _ (do again (.builtin "list.__iadd__" ⟨[← newList [], .ref l], []⟩)) _ _ s
  refine wpAny_bind (wpAny_newList (wpAny_pure ⟨Code.quiet_builtin _ (by decide +kernel), codeAny_builtin entry_list_iadd' ?_⟩))
  change wpAny _ _ (Builtin.List.listExtendWith (.ref s.heap.objs.size) (.ref l) (.ref s.heap.objs.size)) _ _ { s with heap := s.heap.push (seqObj "list" #[] 0) }
  unfold Builtin.List.listExtendWith
  have ho1 : (s.heap.push (seqObj "list" #[] 0)).get? l = some o := Heap.get?_push_of_some _ ho
  refine wpAny_bind (wpAny_typeOf (T := "tuple") ⟨o, ho1, hc⟩ ?_)
  rw [if_pos (by first | decide | simp)]
  refine wpAny_bind (listItems_at ho1 hd ?_)
  refine wpAny_bind (listItems_at (xs := #[]) (n := 0) (Heap.get?_push_size _ rfl) rfl ?_)
  rw [if_neg (by simp)]
  refine wpAny_bind (listUpdate_at (xs := #[]) (n := 0) (Heap.get?_push_size _ rfl) rfl ?_ (Nat.zero_le _) (by show (#[] ++ vs.toArray).size ≤ sizeLine + 1; simp only [Array.size_append, List.size_toArray, List.length_nil]; omega))
  refine wpAny_pure ?_
  change wpAny (model prog w) A (do
      let o ← load s.heap.objs.size
      match o.data with
      | .seq xs _ => pure xs.toList
      | _ => unsupported "internal:collect") Q E { s with heap := (s.heap.push (seqObj "list" #[] 0)).update s.heap.objs.size (Obj.mapSeq (· ++ vs.toArray)) }
  refine wpAny_bind (wpAny_load (get?_update_seq (Heap.get?_push_size _ rfl) _) ?_)
  change wpAny _ _ (pure ((#[] : Array Value) ++ vs.toArray).toList) Q E _
  have e : ((#[] : Array Value) ++ vs.toArray).toList = vs := by simp
  rw [e]
  refine wpAny_pure (q _ vs ⟨fun b u hb => ?_, ?_, rfl, rfl⟩ rfl)
  · show ((s.heap.push (seqObj "list" #[] 0)).update s.heap.objs.size (Obj.mapSeq (· ++ vs.toArray))).get? b = some u
    rw [Heap.get?_update_ne _ _ _ _ (Nat.ne_of_lt (Heap.lt_size hb))]
    exact Heap.get?_push_of_some _ hb
  · show s.heap.objs.size ≤ ((s.heap.push (seqObj "list" #[] 0)).update s.heap.objs.size (Obj.mapSeq (· ++ vs.toArray))).objs.size
    rw [Heap.size_update, size_push']
    exact Nat.le_succ _
theorem coll_list {l : Addr} {vs : List Value} (hl : s.heap.IsList l vs.toArray) (hz : vs.length ≤ sizeLine) : Coll prog w A E s (.ref l) fun us => us = vs := by
  intro Q q
  refine collect_list hl (q _ vs ⟨fun b u hb => ?_, ?_, rfl, rfl⟩ rfl) hz
  · show ((s.heap.push (seqObj "list" #[] 0)).update s.heap.objs.size (Obj.mapSeq (· ++ vs.toArray))).get? b = some u
    rw [Heap.get?_update_ne _ _ _ _ (Nat.ne_of_lt (Heap.lt_size hb))]
    exact Heap.get?_push_of_some _ hb
  · show s.heap.objs.size ≤ ((s.heap.push (seqObj "list" #[] 0)).update s.heap.objs.size (Obj.mapSeq (· ++ vs.toArray))).objs.size
    rw [Heap.size_update, size_push']
    exact Nat.le_succ _
theorem coll_set {a : Addr} {L : KL} {es : Array (Int × Value)} {ep : Nat} {t : SetTable} (R : SetN w s.heap a L es ep t) (hh : A.handled = none) : Coll prog w A E s (.ref a) fun us => us.Perm (L.map fun p => Value.ref p.1) := by
  intro Q q
  obtain ⟨o, ho, hex, hd⟩ := R.ob
  have sz := R.sz
  have fw := R.fw
  refine collect_set hh ⟨o, ho, hex.1, hd⟩ R.ft (by unfold scanBound; omega) R.tb.ris R.ld fun s1 vs k1 z1 g1 o1 pm => ?_
  refine q s1 vs ⟨k1, z1, g1, o1⟩ ?_
  have e : es.toList.map (·.2) = L.map fun p => Value.ref p.1 := by
    rw [R.rw]
    unfold rwOf
    rw [List.map_map]
    rfl
  rw [e] at pm
  exact pm
end
/-! over the layer -/
structure SetN0 (w : World) (h : Heap) (a : Addr) (L : KL) : Prop where
  ex : ∃ (es : Array (Int × Value)) (ep : Nat) (t : SetTable), (∃ o, h.get? a = some o ∧ o.ExactSet ∧ o.data = .set es ep t) ∧ es.toList = rwOf w L ∧ TabOk t (hsOf w L) ∧ (L.map (·.2)).Nodup ∧ t.plain = true ∧ (w.params.followText "set-order" = true ∨ t.led = true) ∧ L.length * 5 < t.mask * 3 ∧ L.length < 64
def SetNO (w : World) (a : Addr) (L : KL) : HO := .ext fun h => SetN0 w h a L
theorem SetN0.full {w : World} {h : Heap} {a : Addr} {L : KL} (R : SetN0 w h a L) (hk : ∀ p ∈ L, KeyA h p.2 p.1) : ∃ es ep t, SetN w h a L es ep t := by
  obtain ⟨es, ep, t, h1, h2, h3, h4, h5, h6, h7, h8⟩ := R.ex
  exact ⟨es, ep, t, h1, h2, h3, h4, hk, h5, h6, h7, h8⟩
theorem setNO_new {P : Program} {w : World} {H : Hp} {h : Heap} {a : Addr} {L : KL} (R : SetN0 w h a L) : ObjOk P w H h a (SetNO w a L) := by
  have ⟨es, ep, t, ⟨o, ho, r⟩, q⟩ := R.ex
  refine ⟨R, ⟨o, ho⟩, fun h1 h2 p k => ?_⟩
  have ⟨es', ep', t', ⟨o', ho', r'⟩, q'⟩ := SetN0.ex p
  exact ⟨es', ep', t', ⟨o', k o' ho', r'⟩, q'⟩
/-- at b a tuple of tuples of ints -/
def CovH (H : Hp) (b : Addr) (t : List (List Int)) : Prop := ∃ cs : List Addr, H b = some (.tup (cs.map V.ref)) ∧ Paired (fun c ns => H c = some (.tup (ns.map V.int))) cs t
theorem CovH.same {H H' : Hp} {b : Addr} {t : List (List Int)} (x : CovH H b t) (s : Same H H') : CovH H' b t := by
  obtain ⟨cs, h1, h2⟩ := x
  exact ⟨cs, s _ _ h1, Paired.mapP h2 fun _ _ h => s _ _ h⟩
theorem vals_refs : ∀ {cs : List Addr} {us : List Value}, Vals (cs.map V.ref) us → us = cs.map Value.ref
  | [], _, .nil => rfl
  | c :: cs, _, .cons r t => by
    cases r
    rw [vals_refs t]
    rfl
theorem ints_vals : ∀ {ns : List Int} {us : List Value}, Vals (ns.map V.int) us → IntsAre us ns
  | [], _, .nil => .nil
  | n :: ns, _, .cons r t => by
    obtain ⟨u, rfl⟩ := r
    exact .cons n u (ints_vals t)
variable {X : Cx} {pins : List (Addr × Obj)} {σ : L2.St} {H : Hp} {s : Shared}
theorem cov_raw (I : Inv X pins σ H s) {b : Addr} {t : List (List Int)} (h : CovH H b t) : TupC s.heap (.ref b) t := by
  obtain ⟨cs, hb, hp⟩ := h
  obtain ⟨_, its, r, o, ho, hc, n, hd⟩ := I.hok _ _ hb
  have e := vals_refs r
  subst e
  refine ⟨b, o, _, n, rfl, ho, hc, hd, ?_⟩
  have gen : ∀ {cs : List Addr} {t : List (List Int)}, Paired (fun c ns => H c = some (.tup (ns.map V.int))) cs t → TupNs s.heap (cs.map Value.ref) t := by
    intro cs t p
    induction p with
    | nil => exact .nil
    | cons h _ ih =>
      obtain ⟨_, its2, r2, o2, ho2, hc2, n2, hd2⟩ := I.hok _ _ h
      exact .cons rfl ho2 hc2 hd2 (by simpa using ints_vals r2) ih
  simpa using gen hp
def keysOf (ps : List (Addr × List (List Int))) : KL := ps.map fun p => (p.1, covK p.2)
def rSetN (K : PySem.W.Frag) (w : World) : List V → Hp → VK → Prop := fun xs H Q => ∃ (l : Addr) (ps : List (Addr × List (List Int))), xs = [V.ref l] ∧ SqL K H l (ps.map fun p => V.ref p.1) ∧ (∀ p ∈ ps, CovH H p.1 p.2) ∧ ps.length < 64 ∧
  ∀ a (L : List (Addr × List (List Int))), H a = none → (L.map (·.2)).Nodup → (∀ p ∈ L, p ∈ ps) → (∀ p ∈ ps, p.2 ∈ L.map (·.2)) → Q (.ref a) (upd H a (SetNO w a (keysOf L)))
theorem back_keys {ps : List (Addr × List (List Int))} : ∀ {L : KL}, (∀ p ∈ L, p ∈ keysOf ps) → ∃ L', L = keysOf L' ∧ ∀ p ∈ L', p ∈ ps
  | [], _ => ⟨[], rfl, nofun⟩
  | q :: L, h => by
    obtain ⟨L', e, h'⟩ := back_keys (L := L) fun p hp => h p (List.mem_cons_of_mem _ hp)
    obtain ⟨p, hp, ep⟩ := List.mem_map.mp (h q List.mem_cons_self)
    refine ⟨p :: L', by rw [e, ← ep]; rfl, fun r hr => ?_⟩
    rcases List.mem_cons.mp hr with rfl | hr
    · exact hp
    · exact h' r hr
theorem keys_snd (ps : List (Addr × List (List Int))) : (keysOf ps).map (·.2) = (ps.map (·.2)).map covK := by
  unfold keysOf
  rw [List.map_map, List.map_map]
  rfl
theorem keys_ref (ps : List (Addr × List (List Int))) : (keysOf ps).map (fun p => Value.ref p.1) = ps.map fun p => Value.ref p.1 := by
  unfold keysOf
  rw [List.map_map]
  rfl
theorem vals_fst : ∀ {ps : List (Addr × List (List Int))} {us : List Value}, Vals (ps.map fun p => V.ref p.1) us → us = ps.map fun p => Value.ref p.1
  | [], _, .nil => rfl
  | p :: ps, _, .cons r t => by
    cases r
    rw [vals_fst t]
    rfl
theorem cr_setN (hc : X.calm = true) (hu : X.A.units + 64 < cLine) : CallR X (.type "set") (rSetN X.K X.w) := by
  intro pins s σ H xs us Q I r h
  obtain ⟨l, ps, rfl, hs, hk, fw, q⟩ := h
  obtain ⟨its, rv, hl, _⟩ := I.list hs
  have e := vals_fst rv
  rw [Vals.ref1 r]
  have kh : ∀ p ∈ keysOf ps, KeyA s.heap p.2 p.1 := fun p hp => by
    obtain ⟨p', hp', rfl⟩ := List.mem_map.mp hp
    exact (cov_raw I (hk p' hp')).key
  refine set_of_keys (P := X.prog) (w := X.w) (keysOf ps) (I.ok.hd hc) hl.isList (by rw [keys_ref, ← e]) kh (by unfold keysOf; rw [List.length_map]; exact fw) (by omega) fun h' tk L es ep t hS g hkp => ?_
  have all1 : ∀ p ∈ L, p ∈ keysOf ps := fun p hp => List.mem_of_mem_take (g.sub p hp)
  obtain ⟨L', eL, hL⟩ := back_keys all1
  subst eL
  have new := I.hok.fresh (Nat.le_refl s.heap.objs.size)
  have R0 : SetN0 X.w h' s.heap.objs.size (keysOf L') := ⟨es, ep, t, hS.ob, hS.rw, hS.tb, hS.nd, hS.pl, hS.ld, hS.rm, hS.fw⟩
  refine ⟨.ref _, upd H s.heap.objs.size (SetNO X.w s.heap.objs.size (keysOf L')), I.laid (t' := tk) hkp (Nat.le_refl _) (setNO_new R0), rfl, q _ L' new ?_ hL fun p hp => ?_⟩
  · have nd := hS.nd
    rw [keys_snd] at nd
    exact L2.nodup_of_map nd
  · have := g.all (p.1, covK p.2) (by rw [List.take_length]; exact List.mem_map.mpr ⟨p, hp, rfl⟩)
    rw [keys_snd] at this
    obtain ⟨t', ht', et⟩ := List.mem_map.mp this
    rw [← covK_inj et]
    exact ht'
end RT
end
section
set_option Elab.async false
set_option linter.all false
set_option maxRecDepth 100000
set_option maxHeartbeats 6400000
/-! ### sorted(set(xs)), xs tuples of tuples of ints; sorted(t), t a tuple of tuples of ints -/
namespace RT
open PySem PySem.Spec PyProof.Rows L2
section
variable {X : Cx} {pins : List (Addr × Obj)} {σ : L2.St} {H : Hp} {s : Shared}
theorem tup_ints_inj : ∀ {a b : List Int}, a.map V.int = b.map V.int → a = b := fun {a b} h => (List.map_inj_right fun x y e => by injection e).mp h
theorem refs_inj : ∀ {a b : List Addr}, a.map V.ref = b.map V.ref → a = b := fun {a b} h => (List.map_inj_right fun x y e => by injection e).mp h
theorem cov_fun {b : Addr} {t u : List (List Int)} (x : CovH H b t) (y : CovH H b u) : t = u := by
  obtain ⟨cs, h1, p1⟩ := x
  obtain ⟨ds, h2, p2⟩ := y
  have e : cs.map V.ref = ds.map V.ref := by
    have q := h1.symm.trans h2
    injection q with q
    injection q
  have e' := refs_inj e
  subst e'
  clear h1 h2 e
  induction p1 generalizing u with
  | nil => cases p2; rfl
  | cons h _ ih =>
    cases p2 with
    | cons h2 t2 =>
      rw [ih t2]
      have q := h.symm.trans h2
      injection q with q
      injection q with q
      rw [tup_ints_inj q]
/-- the tuples' contents, by the value -/
def kfOf (L : List (Addr × List (List Int))) : Value → List (List Int)
  | .ref a => ((L.find? fun p => decide (p.1 = a)).map (·.2)).getD []
  | _ => []
theorem kf_at {L : List (Addr × List (List Int))} (hk : ∀ p ∈ L, CovH H p.1 p.2) {p : Addr × List (List Int)} (hp : p ∈ L) : kfOf L (.ref p.1) = p.2 := by
  unfold kfOf
  simp only
  cases h : L.find? fun r => decide (r.1 = p.1) with
  | none => exact absurd (decide_eq_true rfl) (List.find?_eq_none.mp h p hp)
  | some r =>
    have e : r.1 = p.1 := of_decide_eq_true (List.find?_some (p := fun r : Addr × List (List Int) => decide (r.1 = p.1)) h)
    have hr := hk r (List.mem_of_find?_eq_some h)
    rw [e] at hr
    exact cov_fun hr (hk p hp)
def rSortSetN (w : World) : List V → Hp → VK → Prop := fun vs H Q => ∃ (a : Addr) (L : List (Addr × List (List Int))), vs = [V.ref a] ∧ H a = some (SetNO w a (keysOf L)) ∧ (∀ p ∈ L, CovH H p.1 p.2 ∧ p.2 ≠ []) ∧ L.length < 64 ∧
  ∀ q (L' : List (Addr × List (List Int))), H q = none → L'.Perm L → L'.Pairwise (fun p r => lexC r.2 p.2 = false) → Q (.ref q) (upd H q (.lst (L'.map fun p => V.ref p.1)))
theorem vals_of_fst : ∀ ps : List (Addr × List (List Int)), Vals (ps.map fun p => V.ref p.1) (ps.map fun p => Value.ref p.1)
  | [] => .nil
  | p :: ps => .cons (show RelV (.ref p.1) (.ref p.1) from rfl) (vals_of_fst ps)
theorem later_inv (I : Inv X pins σ H s) {s' : Shared} (l : Later s s') {p : Addr} {ys : List V} {out : List Value} {c : Nat} (hp : s.heap.objs.size ≤ p) (hv : Vals ys out) (hl : ys.length ≤ sizeLine) (hg : s'.heap.get? p = some (seqObj "list" out.toArray c)) : Inv X pins σ (upd H p (.lst ys)) s' ∧ H p = none := by
  obtain ⟨k, _, g, o⟩ := l
  have hn : H p = none := I.hok.fresh hp
  have J : Inv X pins σ (upd H p (.lst ys)) { s with heap := s'.heap, gens := s'.gens, drawn := s'.drawn, toks := s'.toks } :=
    I.call (ch := []) (Un.laid k hp hn) (I.hok.laid k hp ⟨hl, out, c, hv, hg⟩) (by rw [g]; exact I.bare) (fun _ z => nomatch z)
  have e : s' = { s with heap := s'.heap, gens := s'.gens, drawn := s'.drawn, toks := s'.toks } := by
    cases s'
    cases s
    cases o
    rfl
  refine ⟨?_, hn⟩
  rw [e]
  exact J
theorem cr_sortSetN (hc : X.calm = true) (hu : X.A.units + 64 < cLine) : CallR X (.builtin "sorted") (rSortSetN X.w) := by
  intro pins s σ H vs us Q I r h
  obtain ⟨a, L, rfl, ha, hk, fw, q⟩ := h
  have R0 : SetN0 X.w s.heap a (keysOf L) := (I.hok a _ ha).1
  have kh : ∀ p ∈ keysOf L, KeyA s.heap p.2 p.1 := fun p hp => by
    obtain ⟨p', hp', rfl⟩ := List.mem_map.mp hp
    exact (cov_raw I (hk p' hp').1).key
  obtain ⟨es, ep, t, R⟩ := R0.full kh
  rw [Vals.ref1 r]
  have kf := fun p hp => kf_at (fun p hp => (hk p hp).1) (p := p) hp
  have raw : ∀ vs : List Value, vs.Perm ((keysOf L).map fun p => Value.ref p.1) → ∀ v ∈ vs, TupC s.heap v (kfOf L v) ∧ kfOf L v ≠ [] := fun vs pm v hv => by
    have := pm.mem_iff.mp hv
    rw [keys_ref] at this
    obtain ⟨p, hp, rfl⟩ := List.mem_map.mp this
    rw [kf p hp]
    exact ⟨cov_raw I (hk p hp).1, (hk p hp).2⟩
  have ln : ∀ vs : List Value, vs.Perm ((keysOf L).map fun p => Value.ref p.1) → vs.length = L.length := fun vs pm => by rw [pm.length_eq, keys_ref, List.length_map]
  refine sorted_any (swo_lexC (kfOf L)) (coll_set R (by have := I.ok.hd hc; simpa using this)) (fun vs pm => by rw [ln vs pm, sizeLine_eq]; omega) (fun vs pm h2 s1 b k1 hb => ?_) fun s' p vs out c pm hs hst l hp hg => ?_
  · refine tupc_sortable (by simp; omega) (by omega) (fun v hv => ⟨(raw vs pm v hv).1.keeps fun b o e _ => k1 b o e, (raw vs pm v hv).2⟩) fun o e => ?_
    have e' := e.symm.trans hb
    cases e'
    intro z
    exact absurd (Value.type.inj z) (by decide)
  · have po : out.Perm (L.map fun p => Value.ref p.1) := by
      have h1 := hst.perm.trans pm
      rw [keys_ref] at h1
      exact h1
    have ad : ∀ v ∈ out, ∃ p ∈ L, v = Value.ref p.1 := fun v hv => by
      obtain ⟨p, hp, e⟩ := List.mem_map.mp (po.mem_iff.mp hv)
      exact ⟨p, hp, e.symm⟩
    let g : Value → Addr × List (List Int) := fun v => (match v with | .ref a => a | _ => 0, kfOf L v)
    have pg : (out.map g).Perm L := by
      have h1 := po.map g
      rw [List.map_map] at h1
      have e : L.map (g ∘ fun p => Value.ref p.1) = L := by
        have : L.map (g ∘ fun p => Value.ref p.1) = L.map id := List.map_congr_left fun p hp => by
          show ((p.1, kfOf L (.ref p.1)) : Addr × List (List Int)) = p
          rw [kf p hp]
        rw [this, List.map_id]
      rw [e] at h1
      exact h1
    have eo : out = (out.map g).map fun p => Value.ref p.1 := by
      rw [List.map_map]
      have : out.map ((fun p : Addr × List (List Int) => Value.ref p.1) ∘ g) = out.map id := List.map_congr_left fun v hv => by
        obtain ⟨p, _, rfl⟩ := ad v hv
        rfl
      rw [this, List.map_id]
    have vl := vals_of_fst (out.map g)
    rw [← eo] at vl
    obtain ⟨J, hn⟩ := later_inv I l hp vl (by rw [List.length_map, pg.length_eq, sizeLine_eq]; omega) hg
    refine ⟨.ref p, _, J, rfl, q p (out.map g) hn pg ?_⟩
    rw [List.pairwise_map]
    exact List.Pairwise.imp (fun {v u} h => h) hs
/-- sorted(t) of a tuple -/
def rSortTup : List V → Hp → VK → Prop := fun vs H Q => ∃ (a : Addr) (xs : List V) (k : V → List Int), vs = [V.ref a] ∧ H a = some (.tup xs) ∧ (∀ x ∈ xs, (∃ t, x = V.ref t ∧ H t = some (.tup ((k x).map V.int))) ∧ k x ≠ []) ∧
  ∀ ys p, SrtO.Srtd (ltN k) ys → SrtO.Stb (ltN k) ys xs → H p = none → Q (.ref p) (upd H p (.lst ys))
theorem cr_sortTup : CallR X (.builtin "sorted") rSortTup := by
  intro pins s σ H vs us Q I r h
  obtain ⟨a, xs, k, rfl, ha, hx, q⟩ := h
  obtain ⟨hz, its, rv, o, ho, hc, n, hd⟩ := I.hok _ _ ha
  obtain ⟨u, rfl, ru⟩ := vals1 r
  obtain rfl : u = Value.ref a := ru
  obtain ⟨e1, e2⟩ := refs_back rv fun x m => by
    obtain ⟨⟨t, e, _⟩, _⟩ := hx x m
    exact ⟨t, e⟩
  have hp : ∀ v ∈ its, TupN s.heap v (k (backV v)) ∧ k (backV v) ≠ [] := fun v hv => by
    obtain ⟨t, rfl⟩ := e2 v hv
    have hm : V.ref t ∈ xs := by rw [e1]; exact List.mem_map.mpr ⟨_, hv, rfl⟩
    obtain ⟨⟨t', e, ht⟩, hne⟩ := hx _ hm
    cases e
    obtain ⟨_, its2, r2, o, ho, hc, n, hd⟩ := I.hok _ _ ht
    exact ⟨⟨t, o, its2.toArray, n, rfl, ho, hc, hd, ints_vals r2⟩, hne⟩
  have hzi : its.length ≤ sizeLine := by rw [← rv.length]; exact hz
  refine sorted_any (swo_lexI fun v => k (backV v)) (coll_tuple ho hc hd hzi) (fun vs e => by rw [e]; exact hzi) (fun vs e h2 s1 b k1 hb => ?_) fun s' p vs out c e hs hst l hpp hg => ?_
  · subst e
    refine tupn_sortable (by omega) (fun v hv => ⟨(hp v hv).1.keeps fun b o e _ => k1 b o e, (hp v hv).2⟩) fun o e => ?_
    have e' := e.symm.trans hb
    cases e'
    intro z
    exact absurd (Value.type.inj z) (by decide)
  · subst e
    have h3 : ∀ u ∈ out, ∃ a, u = Value.ref a := fun u hu => e2 u (hst.perm.mem_iff.mp hu)
    have hbk : SrtO.Stb (ltN k) (out.map backV) xs := by
      rw [e1]
      exact SrtO.Stb.map (swo_lexI k) backV hst
    obtain ⟨J, hn⟩ := later_inv I l hpp (vals_back h3) (by rw [hbk.len]; exact hz) hg
    exact ⟨.ref p, _, J, rfl, q _ p (SrtO.srtd_map hs) hbk hn⟩
end
end RT
end
section
set_option Elab.async false
set_option linter.all false
set_option maxRecDepth 100000
set_option maxHeartbeats 8000000
/-! ### sorted(set(xs)) of covers, sorted(t) of a tuple of items -/
namespace RT
open PySem PySem.Spec PyProof.Rows L2
def covL (u : List (List Int)) : PyData := .tuple (u.map tupD)
def covD (t : List Itm) : PyData := .tuple (t.map itD)
def ltC (t u : List Itm) : Bool := lexC (t.map itL) (u.map itL)
def ddL {α : Type} [DecidableEq α] : List α → List α
  | [] => []
  | x :: xs => if x ∈ xs then ddL xs else x :: ddL xs
def sortC (ts : List (List Itm)) : List (List Itm) := sortB ltC (ddL ts)
theorem mem_ddL {α : Type} [DecidableEq α] {k : α} : ∀ {l : List α}, k ∈ ddL l ↔ k ∈ l
  | [] => Iff.rfl
  | x :: xs => by
    unfold ddL
    by_cases h : x ∈ xs
    · rw [if_pos h, mem_ddL, List.mem_cons]
      exact ⟨.inr, fun q => q.elim (fun e => e ▸ h) id⟩
    · rw [if_neg h, List.mem_cons, List.mem_cons, mem_ddL]
theorem ddL_nodup {α : Type} [DecidableEq α] : ∀ l : List α, (ddL l).Nodup
  | [] => .nil
  | x :: xs => by
    unfold ddL
    by_cases h : x ∈ xs
    · rw [if_pos h]
      exact ddL_nodup xs
    · rw [if_neg h]
      exact List.nodup_cons.mpr ⟨fun q => h (mem_ddL.mp q), ddL_nodup xs⟩
theorem ddL_len {α : Type} [DecidableEq α] : ∀ l : List α, (ddL l).length ≤ l.length
  | [] => Nat.le_refl _
  | x :: xs => by
    have := ddL_len xs
    unfold ddL
    by_cases h : x ∈ xs
    · rw [if_pos h, List.length_cons]
      omega
    · rw [if_neg h, List.length_cons, List.length_cons]
      omega
theorem itL_inj {p q : Itm} (h : itL p = itL q) : p = q := by
  obtain ⟨a, b, c⟩ := p
  obtain ⟨d, e, f⟩ := q
  simp only [itL, List.cons.injEq, and_true] at h
  obtain ⟨rfl, rfl, rfl⟩ := h
  rfl
theorem itLs_inj {t u : List Itm} (h : t.map itL = u.map itL) : t = u := (List.map_inj_right fun _ _ e => itL_inj e).mp h
theorem swo_ltC : SrtO.Swo ltC := swo_lexC _
theorem ltC_eq {t u : List Itm} (h1 : ltC t u = false) (h2 : ltC u t = false) : t = u := itLs_inj (lexC_eq _ _ h1 h2)
theorem mem_sortC {k : List Itm} {ts : List (List Itm)} : k ∈ sortC ts ↔ k ∈ ts := by
  unfold sortC
  rw [(sortB_perm _).mem_iff, mem_ddL]
theorem sortC_len (ts : List (List Itm)) : (sortC ts).length ≤ ts.length := by
  unfold sortC
  rw [(sortB_perm _).length_eq]
  exact ddL_len _
theorem sortC_nodup (ts : List (List Itm)) : (sortC ts).Nodup := (sortB_perm (lt := ltC) (ddL ts)).nodup_iff.mpr (ddL_nodup _)
theorem srtd_strict {α : Type} {lt : α → α → Bool} (he : ∀ x y, lt x y = false → lt y x = false → x = y) {l : List α} (h : SrtO.Srtd lt l) (nd : l.Nodup) : l.Pairwise fun x y => lt x y = true := by
  refine List.Pairwise.imp (fun {x y} q => ?_) (h.and nd)
  cases e : lt x y with
  | true => rfl
  | false => exact absurd (he x y e q.1) q.2
theorem sortC_asc (ts : List (List Itm)) : (sortC ts).Pairwise fun x y => ltC x y = true := srtd_strict (fun _ _ => ltC_eq) (sortB_srtd swo_ltC _) (sortC_nodup ts)
theorem strict_uniq {α : Type} {lt : α → α → Bool} (O : SrtO.Swo lt) : ∀ {l r : List α}, (l.Pairwise fun x y => lt x y = true) → (r.Pairwise fun x y => lt x y = true) → (∀ k, k ∈ l ↔ k ∈ r) → l = r
  | [], [], _, _, _ => rfl
  | [], x :: r, _, _, h => absurd ((h x).mpr List.mem_cons_self) (by simp)
  | x :: l, [], _, _, h => absurd ((h x).mp List.mem_cons_self) (by simp)
  | x :: l, y :: r, hl, hr, h => by
    obtain ⟨h1, h2⟩ := List.pairwise_cons.mp hl
    obtain ⟨h3, h4⟩ := List.pairwise_cons.mp hr
    have no : ∀ a, lt a a = true → False := fun a q => by
      rw [O.refl a] at q
      cases q
    have e : x = y := by
      rcases List.mem_cons.mp ((h x).mp List.mem_cons_self) with e | q
      · exact e
      rcases List.mem_cons.mp ((h y).mpr List.mem_cons_self) with e | q2
      · exact e.symm
      have a1 := h3 _ q
      rw [O.asym _ _ (h1 _ q2)] at a1
      cases a1
    subst e
    rw [strict_uniq O h2 h4 fun k => ?_]
    constructor
    · intro hk
      rcases List.mem_cons.mp ((h k).mp (List.mem_cons_of_mem _ hk)) with e | q
      · subst e
        exact (no _ (h1 _ hk)).elim
      · exact q
    · intro hk
      rcases List.mem_cons.mp ((h k).mpr (List.mem_cons_of_mem _ hk)) with e | q
      · subst e
        exact (no _ (h3 _ hk)).elim
      · exact q
theorem sortC_uniq {ts us : List (List Itm)} (h : us.Pairwise fun x y => ltC x y = true) (m : ∀ t, t ∈ us ↔ t ∈ ts) : sortC ts = us := strict_uniq swo_ltC (sortC_asc ts) h fun k => by rw [mem_sortC, m]
theorem paired_drall {G : Hp} : ∀ {xs : List V} {u : List (List Int)}, DrAll G xs (u.map tupD) → ∃ cs : List Addr, xs = cs.map V.ref ∧ Paired (fun c ns => G c = some (.tup (ns.map V.int))) cs u
  | _, [], .nil => ⟨[], rfl, .nil⟩
  | _, ns :: u, .cons r t => by
    obtain ⟨cs, e, p⟩ := paired_drall t
    obtain ⟨_, a, rfl, h⟩ := keyG_dr r
    exact ⟨a :: cs, by rw [e]; rfl, .cons h p⟩
theorem covh_dr {G : Hp} {v : V} {u : List (List Int)} (h : Dr G v (covL u)) : ∃ b, v = .ref b ∧ CovH G b u := by
  cases h with
  | tup e r =>
    obtain ⟨cs, rfl, p⟩ := paired_drall r
    exact ⟨_, rfl, cs, e, p⟩
theorem covs_dr {G : Hp} : ∀ {xs : List V} {us : List (List (List Int))}, DrAll G xs (us.map covL) → ∃ ps : List (Addr × List (List Int)), xs = (ps.map fun p => V.ref p.1) ∧ ps.map (·.2) = us ∧ ∀ p ∈ ps, CovH G p.1 p.2 ∧ Dr G (.ref p.1) (covL p.2)
  | _, [], .nil => ⟨[], rfl, rfl, nofun⟩
  | _, u :: us, .cons r t => by
    obtain ⟨ps, e1, e2, h⟩ := covs_dr t
    obtain ⟨b, rfl, hb⟩ := covh_dr r
    refine ⟨(b, u) :: ps, by rw [e1]; rfl, by rw [← e2]; rfl, fun p hp => ?_⟩
    rcases List.mem_cons.mp hp with rfl | hp
    · exact ⟨hb, r⟩
    · exact h p hp
theorem drall_covs {G : Hp} : ∀ {ps : List (Addr × List (List Int))}, (∀ p ∈ ps, Dr G (.ref p.1) (covL p.2)) → DrAll G (ps.map fun p => V.ref p.1) ((ps.map (·.2)).map covL)
  | [], _ => .nil
  | p :: ps, h => .cons (h p List.mem_cons_self) (drall_covs fun q hq => h q (List.mem_cons_of_mem _ hq))
theorem covD_eq (ts : List (List Itm)) : ts.map covD = (ts.map fun t => t.map itL).map covL := by
  rw [List.map_map]
  refine List.map_congr_left fun t _ => ?_
  show PyData.tuple (t.map itD) = PyData.tuple ((t.map itL).map tupD)
  rw [List.map_map]
  rfl
variable {X : Cx} {L : Vl} {Wx : WX} {C : EK → Addr} {m m' : Md} {tg e a b c : Expr} {es : List Expr} {we wa wb wc : WE L.Θ} {wr : WA L.Θ} {pos p p2 : Pos}
def wSortSetC {Θ : Type} (wa : WE Θ) : WE Θ := fun ρ θ N Nx => wa ρ θ (fun x θ1 => ∃ ts : List (List Itm), x = .py (.list (ts.map covD)) ∧ (∀ t ∈ ts, t ≠ []) ∧ ts.length < 64 ∧ N (.py (.list ((sortC ts).map covD))) θ1) Nx
theorem ex_sortSetC {p3 : Pos} (hu : X.A.units + 65 < cLine) (hc : X.calm = true) (hm : X.mg "sorted" = none) (hm2 : X.mg "set" = none) (hg : Gl X "sorted") (hg2 : Gl X "set") (ha : EX X L Wx m a wa)
    (h1 : starEach [a] X.env = (false, eval a X.env) :: starEach [] X.env := by rfl) (h2 : starEach [.Call (.Name "set" p3) [a] [] p2] X.env = (false, eval (.Call (.Name "set" p3) [a] [] p2) X.env) :: starEach [] X.env := by rfl) :
    EX X L Wx .s (.Call (.Name "sorted" p) [.Call (.Name "set" p3) [a] [] p2] [] pos) (wSortSetC wa) := by
  obtain ⟨t, a1, a2⟩ := ha
  refine ⟨_, pe_callB (cr_sortSetN hc (by omega)) hg hm (by decide +kernel) (pa_cons (pe_callTy (cr_setN hc (by omega)) hg2 hm2 (by decide +kernel) (pa_cons a1 pa_nil h1) (by decide) (by decide) h1 rfl) pa_nil h2) (by decide) (by decide) h2 rfl, fun H0 M σ ρ θ Q N Nx rep j hw hN hX => ?_⟩
  refine a2 H0 M σ ρ θ _ _ Nx rep j hw (fun x θ1 M1 v1 e1 j1 r1 n1 => ?_) hX
  obtain ⟨ts, rfl, hne, hl, n⟩ := n1
  obtain ⟨l, xs, rfl, hL, dr⟩ := Re.list e1.ok r1.r
  rw [covD_eq] at dr
  obtain ⟨ps, rfl, e2, hp⟩ := covs_dr dr
  have pl : ps.length = ts.length := by
    have := congrArg List.length e2
    simpa using this
  refine ⟨l, ps, rfl, .of hL, fun p hp' => (hp p hp').1.same e1.ok.g, by omega, fun q S nq nd hin hall => ?_⟩
  have hsm : Same M1.H (upd M1.H q (SetNO X.w q (keysOf S))) := upd_same_of nq
  have sl : S.length ≤ ps.length := by
    have : (S.map (·.2)).length ≤ (ps.map (·.2)).length := pigeon nd fun x hx => by
      obtain ⟨p, h1, rfl⟩ := List.mem_map.mp hx
      exact List.mem_map.mpr ⟨p, hin p h1, rfl⟩
    simpa using this
  have fromTs : ∀ p ∈ S, ∃ t ∈ ts, p.2 = t.map itL := fun p hp' => by
    have : p.2 ∈ ps.map (·.2) := List.mem_map.mpr ⟨p, hin p hp', rfl⟩
    rw [e2] at this
    obtain ⟨t, ht, e⟩ := List.mem_map.mp this
    exact ⟨t, ht, e.symm⟩
  refine ⟨q, S, rfl, upd_same, fun p hp' => ⟨((hp p (hin p hp')).1.same e1.ok.g).same hsm, ?_⟩, by omega, fun r S' nr pm srt => ?_⟩
  · obtain ⟨t, ht, e⟩ := fromTs p hp'
    rw [e]
    intro z
    exact hne t ht (List.map_eq_nil_iff.mp z)
  obtain ⟨gq, zq⟩ := e1.ok.free nq
  have x1 : Ext M1 (M1.put q (SetNO X.w q (keysOf S))) := ext_put (.refl e1.ok) gq zq nq
  have x2 := Ext0.add x1.ok (o := .lst (S'.map fun p => V.ref p.1)) nr
  have es : S'.map (·.2) = (sortC ts).map fun t => t.map itL := by
    refine strict_uniq (swo_lexC id) (srtd_strict (fun x y h1 h2 => lexC_eq x y h1 h2) ?_ ?_) ?_ fun k => ?_
    · show List.Pairwise _ _
      rw [List.pairwise_map]
      exact srt
    · exact (pm.map (·.2)).nodup_iff.mpr nd
    · rw [List.pairwise_map]
      exact sortC_asc ts
    · rw [(pm.map (·.2)).mem_iff]
      constructor
      · intro hk
        obtain ⟨p, h1, rfl⟩ := List.mem_map.mp hk
        obtain ⟨t, ht, e⟩ := fromTs p h1
        exact List.mem_map.mpr ⟨t, mem_sortC.mpr ht, e.symm⟩
      · intro hk
        obtain ⟨t, ht, rfl⟩ := List.mem_map.mp hk
        have : t.map itL ∈ ps.map (·.2) := by
          rw [e2]
          exact List.mem_map.mpr ⟨t, mem_sortC.mp ht, rfl⟩
        obtain ⟨p, h1, e⟩ := List.mem_map.mp this
        rw [← e]
        exact hall p h1
  have dl : DrAll M1.G (S'.map fun p => V.ref p.1) ((sortC ts).map covD) := by
    rw [covD_eq, ← es]
    exact drall_covs fun p hp' => (hp p (hin p (pm.mem_iff.mp hp'))).2
  exact hN (.py (.list ((sortC ts).map covD))) θ1 _ (.ref r) (e1.trans (x1.trans x2.1)) (L.ext0 ⟨x1.trans x2.1, rfl⟩ j1) (Dr.lst add_at (dl.mono (x1.trans x2.1).g)) n
/-- sorted(t) of a tuple of items -/
def fSortT : FB
  | [.py (.tuple ds)] => (tupsOf ds).map fun nss => .py (.list ((sortB lexI nss).map tupD))
  | _ => none
theorem b_sortT : CalB X C (.builtin "sorted") fSortT kAny := by
  refine ⟨_, cr_sortTup, fun M vs ds d Q ok r hf hk q => ?_⟩
  unfold fSortT at hf
  split at hf
  · rename_i es
    obtain ⟨v, rfl, r0⟩ := pair1 r
    obtain ⟨a, xs, rfl, h1, r1⟩ := Re.tuple ok r0
    cases ht : tupsOf es with
    | none => rw [ht] at hf; cases hf
    | some nss =>
      rw [ht] at hf
      cases hf
      obtain ⟨e1, e2⟩ := tupsOf_eq ht
      subst e1
      obtain ⟨k1, k2⟩ := drall_keys r1
      refine ⟨a, xs, keyG M.G, rfl, h1, fun x hx => ⟨?_, ?_⟩, fun ys p hs hb np => ?_⟩
      · obtain ⟨_, t, e3, e4⟩ := keyG_dr (k2 x hx)
        exact ⟨t, e3, ok.g _ _ e4⟩
      · refine e2 _ ?_
        rw [← k1]
        exact List.mem_map.mpr ⟨x, hx, rfl⟩
      · have hd : DrAll M.G ys (ys.map fun y => tupD (keyG M.G y)) := drall_of _ fun y hy => k2 y (hb.perm.mem_iff.mp hy)
        have e : ys.map (keyG M.G) = sortB lexI nss := by
          refine srt_uniq (swo_lexI id) lexI_eq (((hb.perm.map (keyG M.G)).trans (by rw [k1])).trans (sortB_perm nss).symm) (List.pairwise_map.mpr hs) (sortB_srtd (swo_lexI id) nss)
        have e3 : (ys.map fun y => tupD (keyG M.G y)) = (sortB lexI nss).map tupD := by
          rw [← e, List.map_map]
          rfl
        rw [e3] at hd
        exact new_lst ok hd q p np
  · cases hf
abbrev sortI (t : List Itm) : List Itm := sortB ltItm t
theorem e_sortT (its : List Itm) : fSortT [.py (.tuple (its.map itD))] = some (.py (.list ((sortI its).map itD))) := by
  have e : (sortB lexI (its.map itL)).map tupD = (sortB ltItm its).map itD := by
    rw [← sortB_map itL, List.map_map]
    rfl
  simp only [fSortT, tupsOf_its, Option.map_some, e]
end RT
end
section
set_option Elab.async false
set_option linter.all false
set_option maxRecDepth 100000
set_option maxHeartbeats 8000000
namespace RT
open PySem PySem.Spec PyProof.Rows L2
local macro_rules | `(tactic| simp_arith [$ts,*] $[$loc]?) => `(tactic| simp only [$ts,*, wVar, wOwn, wC, wOp, wT, wChain, wAndT, wOrT, wNotT, wAnd, wOr, wNot, wIf, wNil, wCons, wDisp, wCall, wCall0, wNoPart, wPart, wSl, wRevL, wBlt, wItL, wItT, wItS, wRg1, wRg2, wEnum, wZip, wLR, wLR2, wYes, wM1, wFmt, wJoined, wIsi, wNeg, wNewD, wOwnCat, wPar2, wNext, wSeq, wNever, wSet, wNew, wAug, wExtend, wAppend, wPut, wFrz, wRet, wRetOwn, wRetN, wDrop, wIfS, wgName, wgTup, wUnp, wRaise, bodyEN, wLc, wFor, wSortSet, e_add_i, e_add_s, e_add_l, e_add_t, e_kadd_i, e_kadd_s, e_kadd_l, e_kadd_t, e_sub, e_kt, e_mul_i, e_mul_l, e_kmul_i, e_kmul_l, e_div, e_kdiv, e_mod, e_kmod, e_cmp, e_eq, e_ne, e_keq, e_is_n, e_is_b, e_isn_n, e_isn_b, e_non_n, e_non_l, e_non_t, e_non_i, e_non_s, e_non_b, e_non_x, e_in_l, e_in_t, e_ni_l, e_ni_t, e_kin_l, e_kin_t, e_kin_s, e_ix_l, e_ix_t, e_ix_s, e_kix_l, e_kix_t, e_kix_s, e_sl_l, e_sl_t, e_sl_s, e_len_l, e_len_t, e_len_s, e_klen_l, e_klen_t, e_klen_s, e_kany, e_list_l, e_list_t, e_tup_l, e_tup_t, e_sum, e_max, e_max2, e_min, e_kne, e_kne2, e_all, e_str, e_kstr, e_int, e_kint, e_split, e_ksplit, e_part, e_kpart, e_join, e_kjoin, e_pys0, e_pys1, e_sa0, e_sa1, e_wipe0, e_wipe1, e_js0, e_js1, e_ty_i, e_ty_b, e_ty_n, e_ty_s, e_ty_l, e_ty_t, e_isi_ii, e_isi_ib, e_isi_in, e_isi_is, e_isi_il, e_isi_it, e_isi_bi, e_isi_bb, e_isi_bn, e_isi_bs, e_isi_bl, e_isi_bt, e_isi_li, e_isi_lb, e_isi_ln, e_isi_ls, e_isi_ll, e_isi_lt, e_isi_ti, e_isi_tb, e_isi_tn, e_isi_ts, e_isi_tl, e_isi_tt, e_isi_si, e_isi_sb, e_isi_sn, e_isi_ss, e_isi_sl, e_isi_st, e_up, e_st0, e_st1, e_st2, exists_eq_left, exists_eq_left', exists_eq_right, exists_eq_right', exists_eq', exists_eq, true_and, and_true, and_self, false_and, and_false, exists_and_left, exists_and_right, exists_const, Option.some.injEq, Option.map_some, Option.map_none, Sl.is.injEq, Sl.own.injEq, D.py.injEq, D.ex.injEq, D.rf.injEq, PyData.int.injEq, PyData.bool.injEq, PyData.str.injEq, PyData.list.injEq, PyData.tuple.injEq, List.cons.injEq, if_true, if_false, eq_self, Bool.false_eq_true, Bool.true_eq_false, Bool.not_true, Bool.not_false, Bool.not_not, List.getElem?_cons_zero, List.getElem?_cons_succ, List.set_cons_zero, List.set_cons_succ, List.length_cons, List.length_nil, List.cons_append, List.nil_append, reduceCtorEq, List.replicate_zero, List.replicate_succ, Nat.reduceAdd, Nat.reduceSub, decide_true, decide_false, intsOf_map', blsOf_map', strsOf_map', map_int_inj, map_str_inj, map_bool_inj, map_itD_inj, itD_iff, sh_int, sh_bool, sh_none, sh_itD, sh_nil, sh_ints, sh_its, eqv_int, eqv_bool, eqv_str, eqv_itD, eqv_ints, eqv_strs, eqv_its, eqv_nil, Nat.zero_le, and_assoc] $[$loc]?)
local macro_rules | `(tactic| simp_arith! [$ts,*] $[$loc]?) => `(tactic| simp only [$ts,*, wCount, wIndex, wIsX, wTry, wVar, wOwn, wC, wOp, wT, wChain, wAndT, wOrT, wNotT, wAnd, wOr, wNot, wIf, wNil, wCons, wDisp, wCall, wCall0, wNoPart, wPart, wSl, wRevL, wBlt, wItL, wItT, wItS, wRg1, wRg2, wEnum, wZip, wLR, wLR2, wYes, wM1, wFmt, wJoined, wIsi, wNeg, wNewD, wOwnCat, wPar2, wNext, wSeq, wNever, wSet, wNew, wAug, wExtend, wAppend, wPut, wFrz, wRet, wRetOwn, wRetN, wDrop, wIfS, wgName, wgTup, wUnp, wRaise, bodyEN, wLc, wFor, wSortSet, e_add_i, e_add_s, e_add_l, e_add_t, e_kadd_i, e_kadd_s, e_kadd_l, e_kadd_t, e_sub, e_kt, e_mul_i, e_mul_l, e_kmul_i, e_kmul_l, e_div, e_kdiv, e_mod, e_kmod, e_cmp, e_eq, e_ne, e_keq, e_is_n, e_is_b, e_isn_n, e_isn_b, e_non_n, e_non_l, e_non_t, e_non_i, e_non_s, e_non_b, e_non_x, e_in_l, e_in_t, e_ni_l, e_ni_t, e_kin_l, e_kin_t, e_kin_s, e_ix_l, e_ix_t, e_ix_s, e_kix_l, e_kix_t, e_kix_s, e_sl_l, e_sl_t, e_sl_s, e_len_l, e_len_t, e_len_s, e_klen_l, e_klen_t, e_klen_s, e_kany, e_list_l, e_list_t, e_tup_l, e_tup_t, e_sum, e_max, e_max2, e_min, e_kne, e_kne2, e_all, e_str, e_kstr, e_int, e_kint, e_split, e_ksplit, e_part, e_kpart, e_join, e_kjoin, e_pys0, e_pys1, e_sa0, e_sa1, e_wipe0, e_wipe1, e_js0, e_js1, e_ty_i, e_ty_b, e_ty_n, e_ty_s, e_ty_l, e_ty_t, e_isi_ii, e_isi_ib, e_isi_in, e_isi_is, e_isi_il, e_isi_it, e_isi_bi, e_isi_bb, e_isi_bn, e_isi_bs, e_isi_bl, e_isi_bt, e_isi_li, e_isi_lb, e_isi_ln, e_isi_ls, e_isi_ll, e_isi_lt, e_isi_ti, e_isi_tb, e_isi_tn, e_isi_ts, e_isi_tl, e_isi_tt, e_isi_si, e_isi_sb, e_isi_sn, e_isi_ss, e_isi_sl, e_isi_st, e_up, e_st0, e_st1, e_st2, exists_eq_left, exists_eq_left', exists_eq_right, exists_eq_right', exists_eq', exists_eq, true_and, and_true, and_self, false_and, and_false, exists_and_left, exists_and_right, exists_const, Option.some.injEq, Option.map_some, Option.map_none, Sl.is.injEq, Sl.own.injEq, D.py.injEq, D.ex.injEq, D.rf.injEq, PyData.int.injEq, PyData.bool.injEq, PyData.str.injEq, PyData.list.injEq, PyData.tuple.injEq, List.cons.injEq, if_true, if_false, eq_self, Bool.false_eq_true, Bool.true_eq_false, Bool.not_true, Bool.not_false, Bool.not_not, List.getElem?_cons_zero, List.getElem?_cons_succ, List.set_cons_zero, List.set_cons_succ, List.length_cons, List.length_nil, List.cons_append, List.nil_append, reduceCtorEq, List.replicate_zero, List.replicate_succ, Nat.reduceAdd, Nat.reduceSub, decide_true, decide_false, intsOf_map', blsOf_map', strsOf_map', map_int_inj, map_str_inj, map_bool_inj, map_itD_inj, itD_iff, sh_int, sh_bool, sh_none, sh_itD, sh_nil, sh_ints, sh_its, eqv_int, eqv_bool, eqv_str, eqv_itD, eqv_ints, eqv_strs, eqv_its, eqv_nil, Nat.zero_le, and_assoc] $[$loc]?)
def covF (ev : Ev) (n : Nat) (l : List Int) : List (List Itm) := coversF sortC sortI ev n l
theorem covF_fuel (ev : Ev) : ∀ (n m : Nat) (l : List Int), l.length ≤ n → l.length ≤ m → covF ev n l = covF ev m l
  | n, m, [], _, _ => by cases n <;> cases m <;> rfl
  | 0, _, _ :: _, h, _ => by simp at h
  | _, 0, _ :: _, _, h => by simp at h
  | n + 1, m + 1, x :: r, h1, h2 => by
    simp only [List.length_cons] at h1 h2
    unfold covF coversF
    congr 1
    congr 1
    funext e
    by_cases hx : x ∈ e.2.1
    · have hr := rest_len (r := r) hx
      have ih := covF_fuel ev n m ((x :: r).filter fun k => !decide (k ∈ e.2.1)) (by omega) (by omega)
      unfold covF at ih
      rw [ih]
    · rw [if_neg (fun q => hx q.1), if_neg (fun q => hx q.1)]
def covA (ev : Ev) (l : List Int) : List (List Itm) := covF ev l.length l
/-- what one item of the walk gives -/
def covG (ev : Ev) (x : Int) (r : List Int) (e : Itm × List Int × Int) : List (List Itm) := if x ∈ e.2.1 ∧ e.2.2 + least ev ((x :: r).filter fun k => !decide (k ∈ e.2.1)) = least ev (x :: r) then (covA ev ((x :: r).filter fun k => !decide (k ∈ e.2.1))).map fun t => sortI (e.1 :: t) else []
theorem covA_cons (ev : Ev) (x : Int) (r : List Int) : covA ev (x :: r) = sortC (ev.flatMap (covG ev x r)) := by
  show coversF sortC sortI ev (r.length + 1) (x :: r) = _
  unfold coversF
  congr 1
  congr 1
  funext e
  unfold covG
  by_cases hx : x ∈ e.2.1
  · have hr := rest_len (r := r) hx
    have ih := covF_fuel ev r.length ((x :: r).filter fun k => !decide (k ∈ e.2.1)).length ((x :: r).filter fun k => !decide (k ∈ e.2.1)) (by omega) (Nat.le_refl _)
    unfold covF at ih
    rw [ih]
    rfl
  · rw [if_neg (fun q => hx q.1), if_neg (fun q => hx q.1)]
theorem covA_cnt (ev : Ev) (l : List Int) : (covA ev l).length ≤ cnt ev l := covers_cnt sortC_len ev _ _
theorem covG_cnt (ev : Ev) (x : Int) (r : List Int) : (ev.flatMap (covG ev x r)).length ≤ cnt ev (x :: r) := by
  have e : (ev.flatMap (covG ev x r)) = ev.flatMap fun e => if x ∈ e.2.1 ∧ e.2.2 + least ev ((x :: r).filter fun k => !decide (k ∈ e.2.1)) = least ev (x :: r) then (coversF sortC sortI ev r.length ((x :: r).filter fun k => !decide (k ∈ e.2.1))).map fun t => sortI (e.1 :: t) else [] := by
    congr 1
    funext e
    unfold covG
    by_cases hx : x ∈ e.2.1
    · have hr := rest_len (r := r) hx
      have ih := covF_fuel ev r.length ((x :: r).filter fun k => !decide (k ∈ e.2.1)).length ((x :: r).filter fun k => !decide (k ∈ e.2.1)) (by omega) (Nat.le_refl _)
      unfold covF at ih
      rw [ih]
      rfl
    · rw [if_neg (fun q => hx q.1), if_neg (fun q => hx q.1)]
  rw [e]
  exact found_cnt sortC_len ev r.length x r
theorem sortI_cons_ne (q : Itm) (t : List Itm) : sortI (q :: t) ≠ [] := fun h => by
  have := (sortB_perm (lt := ltItm) (q :: t)).length_eq
  rw [show sortB ltItm (q :: t) = [] from h] at this
  simp at this
theorem covG_ne {ev : Ev} {x : Int} {r : List Int} {e : Itm × List Int × Int} : ∀ t ∈ covG ev x r e, t ≠ [] := fun t ht => by
  unfold covG at ht
  split at ht
  · obtain ⟨u, _, rfl⟩ := List.mem_map.mp ht
    exact sortI_cons_ne _ _
  · cases ht
theorem covF_len (ev : Ev) : ∀ (n : Nat) (l : List Int) (t : List Itm), t ∈ covF ev n l → t.length ≤ l.length
  | n, [], t, h => by
    have e : covF ev n [] = [[]] := by cases n <;> rfl
    rw [e] at h
    rw [List.mem_singleton.mp h]
    exact Nat.le_refl _
  | 0, _ :: _, t, h => by cases h
  | n + 1, x :: r, t, h => by
    unfold covF coversF at h
    rw [mem_sortC, List.mem_flatMap] at h
    obtain ⟨e, _, h⟩ := h
    split at h
    · rename_i hx
      obtain ⟨u, hu, rfl⟩ := List.mem_map.mp h
      have hr := rest_len (r := r) hx.1
      have := covF_len ev n _ u hu
      rw [show (sortI (e.1 :: u)).length = u.length + 1 from (sortB_perm _).length_eq]
      simp only [List.length_cons]
      omega
    · cases h
theorem covA_len {ev : Ev} {l : List Int} {t : List Itm} (h : t ∈ covA ev l) : t.length ≤ l.length := covF_len ev _ _ _ h
def spm_covers (n : Nat) : Spec MS := fun ds θ N _ => ∃ (ns left : List Int) (d : Addr) (m : List (List Int × Int)), ds = [.py (tupD left), .py (.list ((weigh (insideOf ns)).map evD)), .rf d] ∧ θ = .on d m ∧ ns ∈ subs ten ∧ left ∈ subs ten ∧ (∀ k ∈ left, k ∈ ns) ∧ left.length ≤ n ∧
  Good (least (weigh (insideOf ns))) m ∧ ∀ m', Good (least (weigh (insideOf ns))) m' → N (.py (.list ((covA (weigh (insideOf ns)) left).map covD))) (.on d m')
def w_covers_from (sp : Spec MS) : WS MS :=
  wSeq (wIfS (wT (wOp fEq kEq (wVar 0) (wDisp .tuple (wNil)))) (wRet (wDisp .list (wCons (wDisp .tuple (wNil)) (wNil)))) (wNext)) (wSeq (wNew 3) (wSeq (wFor (wItL (wVar 1)) (wgTup [4, 5, 6]) (wIfS (wT (wOp fIn kIn (wOp fIx kIx (wVar 0) (wC (.int 0))) (wVar 5))) (wSeq (wSet 7 (wBlt fTuple kAny (wCons (wLc (wItT (wVar 0)) (wgName 8) (wT (wOp fNi kIn (wVar 8) (wVar 5))) (wVar 8) [8]) (wNil)))) (wIfS (wT (wOp fEq kEq (wOp fAdd kAdd (wVar 6) (wCall (spm_least 10) (wCons (wVar 7) (wCons (wVar 1) (wCons (wVar 2) (wNil)))))) (wCall (spm_least 10) (wCons (wVar 0) (wCons (wVar 1) (wCons (wVar 2) (wNil))))))) (wExtend 3 (wLc (wItL (wCall sp (wCons (wVar 7) (wCons (wVar 1) (wCons (wVar 2) (wNil)))))) (wgName 9) (wYes) (wBlt fTuple kAny (wCons (wBlt fSortT kAny (wCons (wOp fAdd kAdd (wDisp .tuple (wCons (wVar 4) (wNil))) (wVar 9)) (wNil))) (wNil))) [9])) (wNext))) (wNext))) (wFrz 3 (wRet (wSortSetC (wVar 3))))))
theorem law_covers_from (n : Nat) : ∀ ds θ N Nx, spm_covers n ds θ N Nx → w_covers_from (prevM spm_covers n) (bodyEN N Nx) (startD 10 ds) θ := by
  rintro ds θ N Nx ⟨ns, left, d, m, rfl, rfl, hns, hs, hsub, hl, hg, hn⟩
  have l10 := subs_len hs
  have c63 := cnt_63 hns hs hsub
  have hc := weigh_cov (inside_cov hns)
  have e0 : PyData.eqv (tupD left) (.tuple []) = decide (left = []) := eqv_tt left []
  have s0 : SeqAt.shaped (tupD left) = true := sh_tt left
  simp_arith! [w_covers_from, e0, s0, sh_t0]
  cases left with
  | nil =>
    simp_arith! [decide_true, Nat.zero_le]
    exact ⟨by decide, hn m hg⟩
  | cons x r =>
    have ef : decide ((x :: r : List Int) = []) = false := by simp
    simp_arith! [ef, tupD]
    have hcx : ∀ y ∈ x :: r, ∃ e ∈ weigh (insideOf ns), y ∈ e.2.1 := fun y hy => hc y (hsub y hy)
    revert c63 hg hn hcx
    generalize hev : weigh (insideOf ns) = ev
    intro hg hn c63 hcx
    have tot := covG_cnt ev x r
    refine forGo_inv2 evD (fun (es : Ev) (ρ : DS) (θ : MS) => ∃ (m' : List (List Int × Int)) (zs : Ev) (s4 s5 s6 s7 s8 s9 : Sl), θ = .on d m' ∧ Good (least ev) m' ∧ ev = zs ++ es ∧
      ρ = [.is (.py (.tuple ((x :: r).map .int))), .is (.py (.list (ev.map evD))), .is (.rf d), .own ((zs.flatMap (covG ev x r)).map covD), s4, s5, s6, s7, s8, s9]) (fun e es ρ θ h R hR => ?_) (fun ρ θ h => ?_) _ _ _ ⟨m, [], .no, .no, .no, .no, .no, .no, rfl, hg, rfl, rfl⟩
    · obtain ⟨m', zs, s4, s5, s6, s7, s8, s9, rfl, hg', ee, rfl⟩ := h
      obtain ⟨q, own, c⟩ := e
      have a0 : atI ((x :: r).map PyData.int) 0 = some (.int x) := atI_zero _ _
      have nx := fun mm (g : Good (least ev) mm) F s4 s5 s6 s7 s8 s9 (hb : F = zs.flatMap (covG ev x r) ++ covG ev x r (q, own, c)) => hR [.is (.py (.tuple ((x :: r).map .int))), .is (.py (.list (ev.map evD))), .is (.rf d), .own (F.map covD), s4, s5, s6, s7, s8, s9] (.on d mm) ⟨mm, zs ++ [(q, own, c)], s4, s5, s6, s7, s8, s9, rfl, g, by rw [ee]; simp, by rw [List.flatMap_append, hb]; simp⟩
      simp_arith! [evD, tupD, a0, any_ints]
      by_cases hx : x ∈ own
      · have dx : decide (x ∈ own) = true := decide_eq_true hx
        simp_arith! [dx]
        refine lcGo_fm2 PyData.int (fun k => !decide (k ∈ own)) PyData.int _ (fun k hk T F t => ?_) (le_line (by omega)) ?_
        · simp_arith! [any_ints]
          exact t
        simp_arith! [e_tup_l]
        have hr := rest_len (r := r) hx
        have l10' := l10
        have hl' := hl
        simp only [List.length_cons] at hl' l10'
        have hs' := sub_filter hs (fun k => !decide (k ∈ own))
        have hsub' : ∀ y ∈ (x :: r).filter (fun k => !decide (k ∈ own)), y ∈ ns := fun y hy => hsub y (List.mem_filter.mp hy).1
        refine ⟨(x :: r).filter fun k => !decide (k ∈ own), ev, d, m', rfl, rfl, hs', by omega, fun y hy => hcx y (List.mem_filter.mp hy).1, hg', fun m2 g2 => ?_⟩
        simp_arith! [and_true]
        refine ⟨x :: r, ev, d, m2, rfl, rfl, hs, by simp only [List.length_cons]; omega, hcx, g2, fun m3 g3 => ?_⟩
        simp_arith! [and_true]
        by_cases hc2 : c + least ev ((x :: r).filter fun k => !decide (k ∈ own)) = least ev (x :: r)
        · simp_arith! [hc2]
          obtain ⟨k, rfl⟩ : ∃ k, n = k + 1 := ⟨n - 1, by omega⟩
          refine ⟨ns, (x :: r).filter fun k => !decide (k ∈ own), d, m3, by rw [hev]; rfl, rfl, hns, hs', hsub', by omega, by rw [hev]; exact g3, fun m4 g4 => ?_⟩
          rw [hev] at g4 ⊢
          simp_arith! [and_true]
          have eg : covG ev x r (q, own, c) = (covA ev ((x :: r).filter fun k => !decide (k ∈ own))).map fun t => sortI (q :: t) := by
            unfold covG
            rw [if_pos ⟨hx, hc2⟩]
          have lA := covA_cnt ev ((x :: r).filter fun k => !decide (k ∈ own))
          have cA := cnt_63 hns hs' hsub'
          rw [hev] at cA
          refine lcGo_map2 covD (fun t => covD (sortI (q :: t))) _ (fun t ht T t' => ?_) (le_line (by omega)) ?_
          · have lt := covA_len ht
            have e1 : itD q :: t.map itD = (q :: t).map itD := rfl
            have l1 : (1 + (t.map itD).length ≤ sizeLine) = True := eq_true (le_line (by rw [List.length_map]; omega))
            simp_arith! [covD, e1, e_sortT, e_tup_l]
            exact ⟨by decide, of_eq_true l1, t'⟩
          · have lz : (zs.flatMap (covG ev x r)).length ≤ (ev.flatMap (covG ev x r)).length := by
              rw [ee, List.flatMap_append, List.length_append]
              omega
            refine ⟨_, rfl, le_line (by simp only [List.length_map]; omega), ?_⟩
            have em : (zs.flatMap (covG ev x r)).map covD ++ (covA ev ((x :: r).filter fun k => !decide (k ∈ own))).map (fun t => covD (sortI (q :: t))) = (zs.flatMap (covG ev x r) ++ covG ev x r (q, own, c)).map covD := by
              rw [List.map_append, eg, List.map_map]
              rfl
            rw [em]
            exact nx m4 g4 _ _ _ _ _ _ _ rfl
        · simp_arith! [hc2]
          have en : zs.flatMap (covG ev x r) = zs.flatMap (covG ev x r) ++ covG ev x r (q, own, c) := by
            unfold covG
            rw [if_neg (fun z => hc2 z.2), List.append_nil]
          exact nx m3 g3 _ _ _ _ _ _ _ en
      · have dx : decide (x ∈ own) = false := decide_eq_false hx
        simp_arith! [dx]
        have en : zs.flatMap (covG ev x r) = zs.flatMap (covG ev x r) ++ covG ev x r (q, own, c) := by
          unfold covG
          rw [if_neg (fun z => hx z.1), List.append_nil]
        exact nx m' hg' _ _ _ _ _ _ _ en
    · obtain ⟨m', zs, s4, s5, s6, s7, s8, s9, rfl, hg', ee, rfl⟩ := h
      rw [List.append_nil] at ee
      subst ee
      simp_arith! [wSortSetC]
      refine ⟨_, rfl, fun t ht => ?_, by omega, ?_⟩
      · obtain ⟨e, _, h⟩ := List.mem_flatMap.mp ht
        exact covG_ne t h
      · have := hn m' hg'
        rw [covA_cons] at this
        exact this
/-- the covers of a set -/
def coversOf (ns : List Int) : List (List Itm) := covA (weigh (insideOf ns)) ns
theorem covers_63 {ns : List Int} (h : ns ∈ subs ten) : (coversOf ns).length ≤ 63 := Nat.le_trans (covA_cnt _ _) (cnt_63 h h fun _ q => q)
theorem covers_len {ns : List Int} (h : ns ∈ subs ten) {t : List Itm} (ht : t ∈ coversOf ns) : t.length ≤ 10 := Nat.le_trans (covA_len ht) (subs_len h)
theorem erase_srtd {lt : Itm → Itm → Bool} {t : List Itm} (q : Itm) (h : SrtO.Srtd lt t) : SrtO.Srtd lt (t.erase q) := List.Pairwise.sublist List.erase_sublist h
theorem ltItm_eq {p q : Itm} (h1 : ltItm p q = false) (h2 : ltItm q p = false) : p = q := itL_inj (lexI_eq _ _ h1 h2)
theorem swo_ltItm : SrtO.Swo ltItm := swo_lexI itL
theorem srtx : SrtX sortI (SrtO.Srtd ltItm) := ⟨fun l => sortB_srtd swo_ltItm l, fun l => sortB_perm l, fun h1 h2 p => srt_uniq swo_ltItm (fun _ _ => ltItm_eq) p h1 h2, fun q h => erase_srtd q h, .nil⟩
theorem mem_covers {ns : List Int} {t : List Itm} : t ∈ coversOf ns ↔ SrtO.Srtd ltItm t ∧ (∀ q ∈ t, q ∈ insideOf ns) ∧ covs numbersOf t ns ∧ sumI cstOf t = leastOf ns :=
  mem_coversF (nb := numbersOf) (cst := cstOf) srtx (fun l t => mem_sortC) cst_pos ns.length ns t (Nat.le_refl _)
theorem covers_ne {ns : List Int} (h : ns ∈ subs ten) : coversOf ns ≠ [] := fun z => by
  obtain ⟨t, t1, t2, t3, _⟩ := least_get (nb := numbersOf) (cst := cstOf) _ ns (Nat.le_refl _) (inside_cov h)
  have pm := sortB_perm (lt := ltItm) t
  have : sortI t ∈ coversOf ns := mem_covers.mpr ⟨sortB_srtd swo_ltItm t, fun q hq => t1 q (pm.mem_iff.mp hq), covs_perm numbersOf pm.symm t2, by rw [sumI_perm pm, t3]; rfl⟩
  rw [z] at this
  cases this
def sp_covers_of : Spec0 := fun ds N _ => ∃ ns : List Int, ds = [.py (.list (ns.map .int))] ∧ ns ∈ subs ten ∧ N (.py (.list ((coversOf ns).map covD)))
def w_covers_of : WS MS :=
  wRet (wCall (spm_covers 10) (wCons (wBlt fTuple kAny (wCons (wVar 0) (wNil))) (wCons (wCall0 sp_weighed (wCons (wVar 0) (wNil))) (wCons (wDNew) (wNil)))))
theorem law_covers_of : ∀ ds θ N Nx, sp_covers_of.pre ds θ N Nx → w_covers_of (bodyEN N Nx) (startD 1 ds) θ := by
  rintro ds θ N Nx ⟨rfl, ns, rfl, hs, n⟩
  simp_arith! [w_covers_of, sp_weighed, wDNew]
  refine ⟨hs, fun d => ?_⟩
  refine ⟨ns, ns, d, [], rfl, rfl, hs, hs, fun _ h => h, subs_len hs, .nil, fun m' _ => ?_⟩
  exact n _
def sp_shortest_covers : Spec0 := fun ds N Nx => ∃ d, ds = [.py d] ∧ Fine d ∧ (match setD d with | some ns => N (.py (.list ((coversOf ns).map fun t => .list (t.map itD)))) | none => Nx .set)
def w_shortest_covers : WS Unit :=
  wSeq (wDrop (wCall0 sp_check_set (wCons (wVar 0) (wNil)))) (wRet (wLc (wItL (wCall0 sp_covers_of (wCons (wVar 0) (wNil)))) (wgName 1) (wYes) (wBlt fList kAny (wCons (wVar 1) (wNil))) [1]))
theorem law_shortest_covers : ∀ ds θ N Nx, sp_shortest_covers.up ds θ N Nx → w_shortest_covers (bodyEN N Nx) (startD 2 ds) θ := by
  rintro ds θ N Nx ⟨d, rfl, fn, n⟩
  simp_arith! [w_shortest_covers, sp_check_set]
  refine ⟨fn, ?_⟩
  rw [isSetD_eq]
  cases h : setD d with
  | none => simp_arith! [h, Option.isSome_none] at n ⊢; exact n
  | some ns =>
    obtain ⟨rfl, hs⟩ := setD_some h
    have hs' := (setI_iff.mp hs).1
    simp_arith! [h, Option.isSome_some, sp_covers_of] at n ⊢
    have c63 := covers_63 hs'
    refine ⟨hs', lcGo_map2 covD (fun t => .list (t.map itD)) _ (fun t ht T t' => ?_) (le_line (by omega)) n⟩
    simp_arith! [covD]
    exact t'
/-- the number of orders -/
def waysN (n : Nat) : Int := (rgI 0 n).foldl (fun p k => p * (k + 1)) 1
def ways (t : List Itm) : Int := waysN t.length
def countOf (ns : List Int) : Int := ((coversOf ns).map ways).sum
def sp_count_shortest : Spec0 := fun ds N Nx => ∃ d, ds = [.py d] ∧ Fine d ∧ (match setD d with | some ns => N (.py (.int (countOf ns))) | none => Nx .set)
def w_count_shortest : WS Unit :=
  wSeq (wDrop (wCall0 sp_check_set (wCons (wVar 0) (wNil)))) (wSeq (wSet 1 (wC (.int 0))) (wSeq (wFor (wItL (wCall0 sp_covers_of (wCons (wVar 0) (wNil)))) (wgName 2) (wSeq (wSet 3 (wC (.int 1))) (wSeq (wFor (wRg1 (wCons (wBlt fLen kLen (wCons (wVar 2) (wNil))) (wNil))) (wgName 4) (wAug 3 fMul kMulI (wOp fAdd kAdd (wVar 4) (wC (.int 1))))) (wAug 1 fAdd kInts (wVar 3))))) (wRet (wVar 1))))
theorem law_count_shortest : ∀ ds θ N Nx, sp_count_shortest.up ds θ N Nx → w_count_shortest (bodyEN N Nx) (startD 5 ds) θ := by
  rintro ds θ N Nx ⟨d, rfl, fn, n⟩
  simp_arith! [w_count_shortest, sp_check_set]
  refine ⟨fn, ?_⟩
  rw [isSetD_eq]
  cases h : setD d with
  | none => simp_arith! [h, Option.isSome_none] at n ⊢; exact n
  | some ns =>
    obtain ⟨rfl, hs⟩ := setD_some h
    have hs' := (setI_iff.mp hs).1
    simp_arith! [h, Option.isSome_some, sp_covers_of] at n ⊢
    refine ⟨hs', ?_⟩
    have c63 := covers_63 hs'
    refine forGo_inv2 covD (fun (ts : List (List Itm)) (ρ : DS) (θ : Unit) => ∃ (zs : List (List Itm)) (s2 s3 s4 : Sl), coversOf ns = zs ++ ts ∧ ρ = [.is (.py (.list (ns.map .int))), .is (.py (.int (zs.map ways).sum)), s2, s3, s4]) (fun t ts ρ θ' h2 R hR => ?_) (fun ρ θ' h2 => ?_) _ _ _ ⟨[], .no, .no, .no, rfl, rfl⟩
    · obtain ⟨zs, s2, s3, s4, ee, rfl⟩ := h2
      have ht : t ∈ coversOf ns := by rw [ee]; simp
      have tl := covers_len hs' ht
      simp_arith! [covD, List.length_map, Int.toNat_natCast, rgD_eq]
      refine ⟨by omega, by omega, ?_⟩
      refine forGo_inv2 PyData.int (fun (ks : List Int) (ρ : DS) (_ : Unit) => ∃ (ys : List Int) (s4 : Sl), rgI 0 t.length = ys ++ ks ∧ ρ = [.is (.py (.list (ns.map .int))), .is (.py (.int (zs.map ways).sum)), .is (.py (.tuple (t.map itD))), .is (.py (.int (ys.foldl (fun p k => p * (k + 1)) 1))), s4]) (fun k ks ρ θ2 h3 R' hR' => ?_) (fun ρ θ2 h3 => ?_) _ _ _ ⟨[], s4, rfl, rfl⟩
      · obtain ⟨ys, s4, e3, rfl⟩ := h3
        have hk : k ∈ rgI 0 t.length := by rw [e3]; simp
        obtain ⟨i, hi, ei⟩ := List.mem_map.mp hk
        have hi' := List.mem_range.mp hi
        have km : CMul (ys.foldl (fun p k => p * (k + 1)) 1) (k + 1) := .inr ⟨by omega, by omega⟩
        simp_arith! [and_true]
        refine ⟨⟨_, _, rfl, rfl, km⟩, hR' _ _ ⟨ys ++ [k], .is (.py (.int k)), by rw [e3]; simp, ?_⟩⟩
        rw [List.foldl_append]
        rfl
      · obtain ⟨ys, s4, e3, rfl⟩ := h3
        rw [List.append_nil] at e3
        simp_arith! [and_true]
        have es : ((zs ++ [t]).map ways).sum = (zs.map ways).sum + ys.foldl (fun p k => p * (k + 1)) 1 := by
          rw [List.map_append, List.sum_append, ← e3]
          simp [ways, waysN]
        refine hR _ _ ⟨zs ++ [t], .is (.py (.tuple (t.map itD))), .is (.py (.int (ys.foldl (fun p k => p * (k + 1)) 1))), s4, by rw [ee]; simp, ?_⟩
        rw [es]
    · obtain ⟨zs, s2, s3, s4, ee, rfl⟩ := h2
      rw [List.append_nil] at ee
      simp_arith! [and_true]
      unfold countOf at n
      rw [ee] at n
      exact n
/-- the first shortest text -/
def firstOf (ns : List Int) : Str := joinI ((coversOf ns).headD [])
def sp_first_shortest : Spec0 := fun ds N Nx => ∃ d, ds = [.py d] ∧ Fine d ∧ (match setD d with | some ns => N (.py (.str (firstOf ns))) | none => Nx .set)
def w_first_shortest : WS Unit :=
  wSeq (wDrop (wCall0 sp_check_set (wCons (wVar 0) (wNil)))) (wRet (wM1 fJoin kJoin (wC (.str ",")) (wLc (wItT (wOp fIx kIx (wCall0 sp_covers_of (wCons (wVar 0) (wNil))) (wC (.int 0)))) (wgName 1) (wYes) (wCall0 sp_text_of (wCons (wVar 1) (wNil))) [1])))
theorem law_first_shortest : ∀ ds θ N Nx, sp_first_shortest.up ds θ N Nx → w_first_shortest (bodyEN N Nx) (startD 2 ds) θ := by
  rintro ds θ N Nx ⟨d, rfl, fn, n⟩
  simp_arith! [w_first_shortest, sp_check_set]
  refine ⟨fn, ?_⟩
  rw [isSetD_eq]
  cases h : setD d with
  | none => simp_arith! [h, Option.isSome_none] at n ⊢; exact n
  | some ns =>
    obtain ⟨rfl, hs⟩ := setD_some h
    have hs' := (setI_iff.mp hs).1
    simp_arith! [h, Option.isSome_some, sp_covers_of] at n ⊢
    refine ⟨hs', ?_⟩
    unfold firstOf at n
    cases hc : coversOf ns with
    | nil => exact absurd hc (covers_ne hs')
    | cons t ts =>
      rw [hc] at n
      have ht : t ∈ coversOf ns := by rw [hc]; exact List.mem_cons_self
      have tl := covers_len hs' ht
      have ok : ∀ q ∈ t, itemOk q = true := fun q hq => (inside_iff.mp ((mem_covers.mp ht).2.1 q hq)).1
      simp_arith! [List.map_cons, atI_zero, covD]
      refine lcGo_map2 itD (fun q => .str (textOf q)) t (fun q hq T t' => ?_) (le_line (by omega)) ?_
      · simp_arith! [sp_text_of]
        exact ⟨q, rfl, rfl, rfl, ok q hq, t'⟩
      · have e2 : (t.map fun q => PyData.str (textOf q)) = (t.map textOf).map .str := by simp
        rw [e2]
        simp_arith [and_true]
        refine ⟨fun ys hy => ?_, n⟩
        subst hy
        exact joins_ok (List.all_eq_true.mpr ok) (by omega)
end RT
end
section
set_option Elab.async false
set_option linter.all false
set_option maxRecDepth 100000
set_option maxHeartbeats 8000000
namespace RT
open PySem PySem.Spec PyProof.Rows L2
local macro_rules | `(tactic| simp_arith [$ts,*] $[$loc]?) => `(tactic| simp only [$ts,*, wVar, wOwn, wC, wOp, wT, wChain, wAndT, wOrT, wNotT, wAnd, wOr, wNot, wIf, wNil, wCons, wDisp, wCall, wCall0, wNoPart, wPart, wSl, wRevL, wBlt, wItL, wItT, wItS, wRg1, wRg2, wEnum, wZip, wLR, wLR2, wYes, wM1, wFmt, wJoined, wIsi, wNeg, wNewD, wOwnCat, wPar2, wNext, wSeq, wNever, wSet, wNew, wAug, wExtend, wAppend, wPut, wFrz, wRet, wRetOwn, wRetN, wDrop, wIfS, wgName, wgTup, wUnp, wRaise, bodyEN, wLc, wFor, wSortSet, e_add_i, e_add_s, e_add_l, e_add_t, e_kadd_i, e_kadd_s, e_kadd_l, e_kadd_t, e_sub, e_kt, e_mul_i, e_mul_l, e_kmul_i, e_kmul_l, e_div, e_kdiv, e_mod, e_kmod, e_cmp, e_eq, e_ne, e_keq, e_is_n, e_is_b, e_isn_n, e_isn_b, e_non_n, e_non_l, e_non_t, e_non_i, e_non_s, e_non_b, e_non_x, e_in_l, e_in_t, e_ni_l, e_ni_t, e_kin_l, e_kin_t, e_kin_s, e_ix_l, e_ix_t, e_ix_s, e_kix_l, e_kix_t, e_kix_s, e_sl_l, e_sl_t, e_sl_s, e_len_l, e_len_t, e_len_s, e_klen_l, e_klen_t, e_klen_s, e_kany, e_list_l, e_list_t, e_tup_l, e_tup_t, e_sum, e_max, e_max2, e_min, e_kne, e_kne2, e_all, e_str, e_kstr, e_int, e_kint, e_split, e_ksplit, e_part, e_kpart, e_join, e_kjoin, e_pys0, e_pys1, e_sa0, e_sa1, e_wipe0, e_wipe1, e_js0, e_js1, e_ty_i, e_ty_b, e_ty_n, e_ty_s, e_ty_l, e_ty_t, e_isi_ii, e_isi_ib, e_isi_in, e_isi_is, e_isi_il, e_isi_it, e_isi_bi, e_isi_bb, e_isi_bn, e_isi_bs, e_isi_bl, e_isi_bt, e_isi_li, e_isi_lb, e_isi_ln, e_isi_ls, e_isi_ll, e_isi_lt, e_isi_ti, e_isi_tb, e_isi_tn, e_isi_ts, e_isi_tl, e_isi_tt, e_isi_si, e_isi_sb, e_isi_sn, e_isi_ss, e_isi_sl, e_isi_st, e_up, e_st0, e_st1, e_st2, exists_eq_left, exists_eq_left', exists_eq_right, exists_eq_right', exists_eq', exists_eq, true_and, and_true, and_self, false_and, and_false, exists_and_left, exists_and_right, exists_const, Option.some.injEq, Option.map_some, Option.map_none, Sl.is.injEq, Sl.own.injEq, D.py.injEq, D.ex.injEq, D.rf.injEq, PyData.int.injEq, PyData.bool.injEq, PyData.str.injEq, PyData.list.injEq, PyData.tuple.injEq, List.cons.injEq, if_true, if_false, eq_self, Bool.false_eq_true, Bool.true_eq_false, Bool.not_true, Bool.not_false, Bool.not_not, List.getElem?_cons_zero, List.getElem?_cons_succ, List.set_cons_zero, List.set_cons_succ, List.length_cons, List.length_nil, List.cons_append, List.nil_append, reduceCtorEq, List.replicate_zero, List.replicate_succ, Nat.reduceAdd, Nat.reduceSub, decide_true, decide_false, intsOf_map', blsOf_map', strsOf_map', map_int_inj, map_str_inj, map_bool_inj, map_itD_inj, itD_iff, sh_int, sh_bool, sh_none, sh_itD, sh_nil, sh_ints, sh_its, eqv_int, eqv_bool, eqv_str, eqv_itD, eqv_ints, eqv_strs, eqv_its, eqv_nil, Nat.zero_le, and_assoc] $[$loc]?)
/-! ### first_fault and covered_times, as in the text of k02 -/
def faultIx (ps : List Str) : PyData := match ps.findIdx? fun p => (itemIn p).isNone with
  | some i => .int (i : Nat)
  | none => .none
def sp_first_fault : Spec0 := fun ds N Nx => ∃ d, ds = [.py d] ∧ TFine d ∧ (match d with | .str z => N (.py (faultIx (Txt.split z ","))) | _ => Nx .text)
def w_first_fault : WS Unit :=
  wSeq (wIfS (wNotT (wT (wIsi "str" (wVar 0)))) (wRaise .text) (wNext)) (wSeq (wFor (wEnum (wCons (wM1 fSplit kSplit (wVar 0) (wC (.str ","))) (wNil))) (wgTup [1, 2]) (wIfS (wT (wOp fIs kTrue (wCall0 sp_item_in (wCons (wVar 2) (wNil))) (wC .none))) (wRet (wVar 1)) (wNext))) (wRet (wC .none)))
theorem law_first_fault : ∀ ds θ N Nx, sp_first_fault.up ds θ N Nx → w_first_fault (bodyEN N Nx) (startD 3 ds) θ := by
  rintro ds θ N Nx ⟨d, rfl, fn, n⟩
  cases d with
  | str z =>
    have ok : TOk z := fn
    have n : N (.py (faultIx (Txt.split z ","))) () := n
    have hl : z.length + 2 ≤ sizeLine := by have := ok.2; exact le_line' (by omega)
    simp_arith [w_first_fault, enD_zip, List.map_map]
    refine ⟨by decide +kernel, hl, ?_⟩
    refine forGo_inv (D.py ∘ fun p : Str × Nat => .tuple [.int (p.2 : Nat), .str p.1]) (fun (xs : List (Str × Nat)) (ρ : DS) (_ : Unit) => ∃ (i : Nat) (s1 s2 : Sl), xs = ((Txt.split z ",").zipIdx).drop i ∧ i ≤ (Txt.split z ",").length ∧ (∀ j, j < i → ∀ p, (Txt.split z ",")[j]? = some p → (itemIn p).isNone = false) ∧ ρ = [.is (.py (.str z)), s1, s2])
      (fun p xs ρ θ h R hR => ?_) (fun ρ θ h => ?_) _ _ _ ⟨0, .no, .no, rfl, Nat.zero_le _, fun j h => absurd h (Nat.not_lt_zero j), rfl⟩
    · obtain ⟨i, s1, s2, e, hi, hp, rfl⟩ := h
      have lt : i < (Txt.split z ",").length := by
        refine Nat.lt_of_le_of_ne hi fun q => ?_
        rw [q] at e
        have : (Txt.split z ",").zipIdx.drop (Txt.split z ",").length = [] := List.drop_eq_nil_of_le (by simp)
        rw [this] at e
        cases e
      have lt' : i < (Txt.split z ",").zipIdx.length := by simpa using lt
      rw [List.drop_eq_getElem_cons lt'] at e
      injection e with e1 e2
      have ep : p = ((Txt.split z ",")[i], i) := by
        rw [e1, List.getElem_zipIdx]
        simp
      subst ep
      have tk := ok.split _ (List.getElem_mem lt)
      simp_arith [Function.comp, sp_item_in]
      refine ⟨tk, ?_⟩
      cases hq : itemIn (Txt.split z ",")[i] with
      | none =>
        simp_arith [optI]
        have ef : faultIx (Txt.split z ",") = .int (i : Nat) := by
          unfold faultIx
          have : (Txt.split z ",").findIdx? (fun p => (itemIn p).isNone) = some i := by
            rw [List.findIdx?_eq_some_iff_getElem]
            refine ⟨lt, by rw [hq]; rfl, fun j hj => ?_⟩
            have := hp j hj _ (List.getElem?_eq_getElem (by omega))
            rw [this]
            simp
          rw [this]
        rw [ef] at n
        exact n
      | some q =>
        simp_arith [optI]
        refine hR _ _ ⟨i + 1, _, _, e2, lt, fun j hj p' hp' => ?_, rfl⟩
        rcases Nat.lt_succ_iff_lt_or_eq.mp hj with h | h
        · exact hp j h p' hp'
        · subst h
          rw [List.getElem?_eq_getElem lt] at hp'
          cases hp'
          rw [hq]
          rfl
    · obtain ⟨i, s1, s2, e, hi, hp, rfl⟩ := h
      have : i = (Txt.split z ",").length := by
        have := congrArg List.length e
        simp at this
        omega
      subst this
      simp_arith [and_true]
      have ef : faultIx (Txt.split z ",") = .none := by
        unfold faultIx
        have : (Txt.split z ",").findIdx? (fun p => (itemIn p).isNone) = none := by
          rw [List.findIdx?_eq_none_iff]
          intro x hx
          obtain ⟨j, hj, rfl⟩ := List.mem_iff_getElem.mp hx
          exact hp j hj _ (List.getElem?_eq_getElem hj)
        rw [this]
      rw [ef] at n
      exact n
  | _ =>
    simp_arith [w_first_fault]
    exact n
def timesOf (its : List Itm) : List PyData := (setOf its).map fun k => .tuple [.int k, .int ((its.filter fun q => decide (k ∈ numbersOf q)).length : Nat)]
def sp_covered_times : Spec0 := fun ds N Nx => ∃ d, ds = [.py d] ∧ TFine d ∧ (match itemsD d with | some its => its.length ≤ 400 ∧ N (.py (.list (timesOf its))) | none => Nx .text)
def w_covered_times : WS Unit :=
  wSeq (wDrop (wCall0 sp_check_text (wCons (wVar 0) (wNil)))) (wSeq (wSet 1 (wCall0 sp_items_in (wCons (wVar 0) (wNil)))) (wRet (wLc (wItL (wCall0 sp_set_of (wCons (wVar 1) (wNil)))) (wgName 2) (wYes) (wDisp .tuple (wCons (wVar 2) (wCons (wBlt fLen kLen (wCons (wLc (wItL (wVar 1)) (wgName 3) (wT (wOp fIn kIn (wVar 2) (wCall0 sp_numbers_of (wCons (wVar 3) (wNil))))) (wVar 3) [3]) (wNil))) (wNil)))) [2])))
theorem law_covered_times : ∀ ds θ N Nx, sp_covered_times.up ds θ N Nx → w_covered_times (bodyEN N Nx) (startD 4 ds) θ := by
  rintro ds θ N Nx ⟨d, rfl, fn, n⟩
  simp_arith [w_covered_times, sp_check_text, sp_items_in]
  refine ⟨fn, ?_⟩
  cases h : itemsD d with
  | none => simp_arith [h] at n ⊢; exact n
  | some its =>
    simp_arith [h, optL_some, sp_set_of] at n ⊢
    refine ⟨fn, items_ok h, n.1, ?_⟩
    refine lcGo_map2 PyData.int (fun k => .tuple [.int k, .int ((its.filter fun q => decide (k ∈ numbersOf q)).length : Nat)]) _ (fun k hk T t => ?_) (le_line (by have := subs_len (setOf_subs its); omega)) n.2
    simp_arith [and_true]
    refine lcGo_fm2 itD (fun q => decide (k ∈ numbersOf q)) itD _ (fun q hq T' F t' => ?_) (le_line (by omega)) ?_
    · simp_arith [sp_numbers_of, any_ints]
      exact ⟨q, rfl, rfl, rfl, List.all_eq_true.mp (items_ok h) q hq, t'⟩
    · simp_arith [List.length_map]
      exact ⟨by decide, t⟩
end RT
end
section
set_option Elab.async false
set_option linter.all false
set_option maxRecDepth 100000
set_option maxHeartbeats 8000000
namespace RT
open PySem PySem.Spec PyProof.Rows L2
/-! ### texts of a set -/
structure TT (a : List Int) (its : List Itm) : Prop where
  t : Txts its
  ne : its ≠ []
  st : setOf its = a
  len : its.length ≤ 100
theorem TT.all {a : List Int} {its : List Itm} (h : TT a its) : its.all itemOk = true := h.t.ok
theorem tt_of {a : List Int} {its : List Itm} (ok : its.all itemOk = true) (ne : its ≠ []) (st : setOf its = a) (len : its.length ≤ 100) : TT a its := ⟨txts ok ne (by omega), ne, st, len⟩
theorem tt_runs {a : List Int} (ha : a ∈ subs ten) (ne : a ≠ []) : TT a (runsOf a) := by
  obtain ⟨r1, r2⟩ := runs_all a ha
  obtain ⟨s1, s2⟩ := runs_set a ha ne
  exact tt_of r1 s2 s1 (by omega)
theorem runs_need : ∀ ns ∈ subs ten, ns ≠ [] → needlessOf (runsOf ns) = [] := by decide +kernel
theorem tt_cover {a : List Int} (ha : a ∈ subs ten) (ne : a ≠ []) {t : List Itm} (ht : t ∈ coversOf a) : TT a t ∧ ((joinI t).length : Int) = shortI a := by
  obtain ⟨m1, m2, m3, m4⟩ := mem_covers.mp ht
  have tne : t ≠ [] := fun e => by
    subst e
    cases a with
    | nil => exact ne rfl
    | cons x r =>
      obtain ⟨q, hq, _⟩ := m3 x List.mem_cons_self
      cases hq
  have ok : t.all itemOk = true := List.all_eq_true.mpr fun q hq => (inside_iff.mp (m2 q hq)).1
  refine ⟨tt_of ok tne (set_of_inside ha m2 m3) (by have := covers_len ha ht; omega), ?_⟩
  rw [joinI_cost tne, m4]
  rfl
theorem joinI_inj {x y : List Itm} (hx : x.all itemOk = true) (nx : x ≠ []) (hy : y.all itemOk = true) (ny : y ≠ []) (h : joinI x = joinI y) : x = y := by
  have h1 := itemsIn_join hx nx
  rw [h, itemsIn_join hy ny] at h1
  injection h1 with h1
  exact h1.symm
theorem joinI_app {x y : List Itm} (nx : x ≠ []) (ny : y ≠ []) : joinI (x ++ y) = (joinI x ++ ",") ++ joinI y := by
  have key : ∀ (n : Nat) (y : List Itm), y.length = n → y ≠ [] → joinI (x ++ y) = (joinI x ++ ",") ++ joinI y := by
    intro n
    induction n with
    | zero =>
      intro y h ny
      exact absurd (List.eq_nil_of_length_eq_zero h) ny
    | succ n ih =>
      intro y h ny
      rcases List.eq_nil_or_concat y with e | ⟨l, q, e⟩
      · exact absurd e ny
      · rw [List.concat_eq_append] at e
        subst e
        by_cases hl : l = []
        · subst hl
          rw [List.nil_append, joinI_snoc nx]
          congr 1
        · rw [← List.append_assoc, joinI_snoc (by simp [nx]), ih l (by simp at h; omega) hl, joinI_snoc hl]
          simp only [Str.append_assoc]
  exact key _ y rfl ny
theorem fault_none {its : List Itm} (ok : its.all itemOk = true) (ne : its ≠ []) : faultIx (Txt.split (joinI its) ",") = .none := by
  rw [split_joinI ok ne]
  unfold faultIx
  have : (its.map textOf).findIdx? (fun p => (itemIn p).isNone) = none := by
    rw [List.findIdx?_eq_none_iff]
    intro x hx
    obtain ⟨q, hq, rfl⟩ := List.mem_map.mp hx
    rw [itemIn_some.mpr ⟨List.all_eq_true.mp ok q hq, rfl⟩]
    rfl
  rw [this]
theorem join_snoc {ws : List Str} (ne : ws ≠ []) (w : Str) : Txt.join "," (ws ++ [w]) = (Txt.join "," ws ++ ",") ++ w := by
  have hc : TL.tl "," = [44] := by decide +kernel
  have hj : ∀ l : List Str, TL.tl (Txt.join "," l) = TL.joinL [44] (l.map TL.tl) := fun l => by
    rw [TL.join_eq, TL.tl_join, hc]
  have snoc : ∀ (l : List (List Nat)) (p : List Nat), l ≠ [] → TL.joinL [44] (l ++ [p]) = TL.joinL [44] l ++ [44] ++ p := by
    intro l p
    induction l with
    | nil => exact fun h => absurd rfl h
    | cons a r ih =>
      intro _
      cases r with
      | nil => simp [TL.joinL]
      | cons b r =>
        have := ih (by simp)
        show a ++ ([44] ++ TL.joinL [44] (b :: r ++ [p])) = a ++ ([44] ++ TL.joinL [44] (b :: r)) ++ [44] ++ p
        rw [this]
        simp
  rw [← TL.mk_tl (Txt.join "," (ws ++ [w])), ← TL.mk_tl ((Txt.join "," ws ++ ",") ++ w), TL.tl_append, TL.tl_append, hj, hj, hc, List.map_append, List.map_cons, List.map_nil, snoc _ _ (by simp [ne])]
theorem tl_empty : TL.tl "" = [] := by decide +kernel
theorem item_empty : itemIn "" = none := by decide +kernel
theorem fault_comma {its : List Itm} (ok : its.all itemOk = true) (ne : its ≠ []) : faultIx (Txt.split (joinI its ++ ",") ",") = .int (its.length : Nat) := by
  have e : joinI its ++ "," = Txt.join "," (its.map textOf ++ [("" : Str)]) := by
    rw [join_snoc (by simp [ne]), ← TL.mk_tl ((Txt.join "," (its.map textOf) ++ ",") ++ ""), TL.tl_append, tl_empty, List.append_nil, TL.mk_tl]
    rfl
  rw [e, TL.split_join (s := 44) (S := []) (by decide +kernel) (by decide +kernel) (by simp) fun p hp => ?_]
  · unfold faultIx
    have : (its.map textOf ++ [("" : Str)]).findIdx? (fun p => (itemIn p).isNone) = some its.length := by
      rw [List.findIdx?_append]
      have h0 : (its.map textOf).findIdx? (fun p => (itemIn p).isNone) = none := by
        rw [List.findIdx?_eq_none_iff]
        intro x hx
        obtain ⟨q, hq, rfl⟩ := List.mem_map.mp hx
        rw [itemIn_some.mpr ⟨List.all_eq_true.mp ok q hq, rfl⟩]
        rfl
      have h1 : ([("" : Str)] : List Str).findIdx? (fun p => (itemIn p).isNone) = some 0 := by
        rw [List.findIdx?_cons, item_empty]
        rfl
      rw [h0, h1]
      simp
    rw [this]
  · rcases List.mem_append.mp hp with h | h
    · obtain ⟨q, hq, rfl⟩ := List.mem_map.mp h
      exact (item_texts q (item_mem.mp (List.all_eq_true.mp ok q hq))).2.2.2
    · rw [List.mem_singleton.mp h, tl_empty]
      exact nofun
theorem idle_need {its : List Itm} : needlessOf its = [] ↔ idleAt its = none := by
  constructor
  · intro h
    cases e : idleAt its with
    | none => rfl
    | some i =>
      obtain ⟨h1, h2⟩ := idle_some e
      have : (i : Int) ∈ needlessOf its := by
        unfold needlessOf needTo
        exact List.mem_map.mpr ⟨i, List.mem_filter.mpr ⟨List.mem_range.mpr h1, h2⟩, rfl⟩
      rw [h] at this
      cases this
  · exact needless_none
theorem need_iff {its : List Itm} : needlessOf its = [] ↔ prunedOf its = its := by
  rw [idle_need]
  constructor
  · exact pruned_stop
  · intro h
    have := pruned_idle _ its (Nat.le_refl _)
    rw [h] at this
    exact this
theorem TT.pruned {a : List Int} {its : List Itm} (h : TT a its) : TT a (prunedOf its) := by
  have p := pruned_prn its
  exact tt_of (all_of h.all fun q hq => p.sub.subset hq) (p.ne h.ne) (p.set.trans h.st) (Nat.le_trans p.sub.length_le h.len)
theorem short_tt {a : List Int} {its : List Itm} (h : TT a its) : shortI a ≤ ((joinI its).length : Int) := by
  have := short_le h.all h.ne
  rw [h.st] at this
  exact this
/-! a plain text, twice -/
theorem set_twice {a : List Int} {x y : List Itm} (hx : setOf x = a) (hy : ∀ q ∈ y, q ∈ x) : setOf (x ++ y) = a ∧ setOf (y ++ x) = a := by
  have e : ∀ z : List Itm, (∀ q, q ∈ z ↔ q ∈ x) → setOf z = a := fun z hz => by
    rw [← hx]
    refine set_ext (setOf_subs _) (setOf_subs _) fun k => ?_
    rw [mem_setOf, mem_setOf]
    exact ⟨fun ⟨q, h1, h2⟩ => ⟨q, (hz q).mp h1, h2⟩, fun ⟨q, h1, h2⟩ => ⟨q, (hz q).mpr h1, h2⟩⟩
  exact ⟨e _ fun q => by simp only [List.mem_append]; exact ⟨fun h => h.elim id (hy q), .inl⟩, e _ fun q => by simp only [List.mem_append]; exact ⟨fun h => h.elim (hy q) id, .inr⟩⟩
theorem need_twice {x : List Itm} (ne : x ≠ []) : (needlessOf (x ++ x)).length = 2 * x.length := by
  have h : ∀ i, i < 2 * x.length → needP (x ++ x) i = true := fun i hi => by
    rw [needP_iff]
    have e := (set_twice (x := x) (y := x) rfl fun q h => h).1
    rw [e]
    by_cases h : i < x.length
    · have c : cutI (x ++ x) i = cutI x i ++ x := by
        unfold cutI
        rw [List.take_append_of_le_length (by omega), List.drop_append_of_le_length (by omega), List.append_assoc]
      rw [c]
      exact ⟨by simp [ne], (set_twice rfl fun q hq => cutI_mem hq).2⟩
    · have c : cutI (x ++ x) i = x ++ cutI x (i - x.length) := by
        unfold cutI
        rw [List.take_append, List.drop_append]
        have e1 : x.take i = x := List.take_of_length_le (by omega)
        have e2 : x.drop (i + 1) = [] := List.drop_eq_nil_of_le (by omega)
        have e3 : i + 1 - x.length = i - x.length + 1 := by omega
        rw [e1, e2, e3, List.nil_append, List.append_assoc]
      rw [c]
      exact ⟨by simp [ne], (set_twice rfl fun q hq => cutI_mem hq).1⟩
  unfold needlessOf needTo
  rw [List.length_map, List.filter_eq_self.mpr fun i hi => h i (by have := List.mem_range.mp hi; simp at this; omega), List.length_range]
  simp
  omega
theorem pruned_twice2 {x : List Itm} (hx : idleAt x = none) : ∀ (n : Nat) (y : List Itm), y.length = n → (∀ q ∈ y, q ∈ x) → x ≠ [] → prunedOf (y ++ x) = x
  | 0, y, h, _, _ => by
    rw [List.eq_nil_of_length_eq_zero h]
    exact pruned_stop hx
  | n + 1, [], h, _, _ => by simp at h
  | n + 1, q :: y, h, hy, ne => by
    have p0 : needP (q :: y ++ x) 0 = true := by
      rw [needP_iff]
      have e1 := (set_twice (x := x) (y := q :: y) rfl hy).2
      have e2 := (set_twice (x := x) (y := y) rfl fun q hq => hy q (List.mem_cons_of_mem _ hq)).2
      have c : cutI (q :: y ++ x) 0 = y ++ x := rfl
      rw [c, e1, e2]
      exact ⟨by simp [ne], rfl⟩
    have ia : idleAt (q :: y ++ x) = some 0 := by
      unfold idleAt
      have e : (q :: y ++ x).length = (y ++ x).length + 1 := by simp
      rw [e, List.range_succ_eq_map, List.find?_cons_of_pos (p := needP (q :: y ++ x)) p0]
    rw [pruned_step ia]
    exact pruned_twice2 hx n y (by simp at h; exact h) (fun q hq => hy q (List.mem_cons_of_mem _ hq)) ne
theorem lcGo_inv2 {Θ α : Type} {g : WG} {wl : WE Θ} {ρ : DS} {N : D → Θ → Prop} (d : α → PyData) (I : List α → List PyData → Θ → Prop) (xs : List α) (h : ∀ x xs acc θ, I (x :: xs) acc θ → acc.length < sizeLine ∧ ∀ T : D → Θ → Prop, (∀ z θ', I xs (acc ++ [z]) θ' → T (.py z) θ') → g (.py (d x)) ρ (fun ρ1 => wl ρ1 θ T (fun _ _ => False)))
    (hn : ∀ acc θ, I [] acc θ → N (.py (.list acc)) θ) (acc : List PyData) (θ : Θ) (i : I xs acc θ) : lcGo g wYes wl ρ N ((xs.map d).map D.py) acc θ := by
  rw [List.map_map]
  exact lcGo_inv (D.py ∘ d) I h hn xs acc θ i
end RT
end
section
set_option Elab.async false
set_option linter.all false
set_option maxRecDepth 100000
set_option maxHeartbeats 4000000
/-! ### own lists of items: xs.remove(e), pick(draws, xs); len(set(lists of tuples)) -/
namespace RT
open PySem PySem.Spec PyProof.Rows L2
section
variable {X : Cx}
def rRemD (K : PySem.W.Frag) : V → List V → Hp → VK → Prop := fun x xs H Q => ∃ (l : Addr) (vs : List V) (y : V) (d : PyData) (ds : List PyData) (j : Nat), x = .ref l ∧ xs = [y] ∧ H l = some (.lst vs) ∧ DpAll K H vs ds ∧ Dp K H y d ∧ PyData.plainAll ds = true ∧ d.plain = true ∧ d.depth ≤ 64 ∧ SeqAt.dataPlace ds d = some j ∧ Q .non (upd H l (.lst (vs.eraseIdx j)))
theorem mt_removeD (hu : X.A.units + 65 < cLine) : MtM X "list.remove" (rRemD X.K) := by
  intro pins s σ H x xs v us Q I rx rxs h
  obtain ⟨l, vs, y, d, ds, j, rfl, rfl, hH, ha, hy, pl, pd, dd, hp, q⟩ := h
  cases rx
  obtain ⟨u, rfl, ru⟩ := rxs.one
  obtain ⟨z, its, n, r, hl, e⟩ := I.lstM hH
  obtain ⟨bs, r1⟩ := Dp.reads I d y u hy ru
  obtain ⟨as, r2⟩ := Dp.readsAll I ds vs its ha r
  refine SeqAt.remove_list_data (l := l) (vs := its.toArray) ⟨_, e, rfl, n, rfl⟩ (show ReadsAll s.heap its.toArray.toList ds as by simpa using r2) r1 pl pd (by have : min (PyData.depthAll ds) d.depth ≤ 64 := Nat.le_trans (Nat.min_le_right _ _) dd; omega) hp (by rw [List.size_toArray]; omega) ?_
  refine ⟨.non, _, I.lset (its' := its.eraseIdx j) hH e ?_ (r.eraseIdx j) ?_, rfl, q⟩
  · show its.toArray.eraseIdxIfInBounds j = (its.eraseIdx j).toArray
    rw [List.eraseIdxIfInBounds_toArray]
  · have := List.length_eraseIdx_le (l := vs) (i := j)
    omega
end
theorem place_erase (q : Itm) : ∀ its : List Itm, q ∈ its → ∃ j, SeqAt.dataPlace (its.map itD) (itD q) = some j ∧ its.eraseIdx j = its.erase q
  | [], h => by cases h
  | p :: r, h => by
    unfold SeqAt.dataPlace
    by_cases e : p = q
    · refine ⟨0, ?_, ?_⟩
      · rw [List.map_cons, List.findIdx?_cons, eqv_itD, decide_eq_true e]
        rfl
      · rw [e, List.erase_cons_head]
        rfl
    · have hr : q ∈ r := (List.mem_cons.mp h).elim (fun z => absurd z.symm e) id
      obtain ⟨j, h1, h2⟩ := place_erase q r hr
      refine ⟨j + 1, ?_, ?_⟩
      · rw [List.map_cons, List.findIdx?_cons, eqv_itD, decide_eq_false e]
        have h1' : (r.map itD).findIdx? (fun y => PyData.eqv y (itD q)) = some j := h1
        rw [h1']
        rfl
      · rw [List.erase_cons_tail (by simpa using e), List.eraseIdx_cons_succ, h2]
theorem it_plain (q : Itm) : (itD q).plain = true ∧ (itD q).depth ≤ 64 := ⟨by simp [itD, PyData.plain, PyData.plainAll], (shp_itD q).mono (by decide) |>.2⟩
theorem its_plain : ∀ its : List Itm, PyData.plainAll (its.map itD) = true
  | [] => by simp [PyData.plainAll]
  | q :: its => by simp [PyData.plainAll, (it_plain q).1, its_plain its]
theorem drall_erase {G : Hp} : ∀ {vs : List V} {ds : List PyData} (j : Nat), DrAll G vs ds → DrAll G (vs.eraseIdx j) (ds.eraseIdx j)
  | _, _, _, .nil => by simp; exact .nil
  | _, _, 0, .cons _ t => by simpa using t
  | _, _, j + 1, .cons h t => by simpa using .cons h (drall_erase j t)
theorem map_eraseIt (f : Itm → PyData) : ∀ (l : List Itm) (j : Nat), (l.map f).eraseIdx j = (l.eraseIdx j).map f
  | [], j => by simp
  | a :: r, 0 => by simp
  | a :: r, j + 1 => by simp [map_eraseIt f r j]
section
variable {X : Cx} {L : Vl} {Wx : WX} {e : Expr} {we : WE L.Θ} {pos : Pos}
/-- xs.remove(e), xs an own list of items -/
def wRemove {Θ : Type} (i : Nat) (we : WE Θ) : WS Θ := fun N ρ θ => ∃ ds, ρ[i]? = some (.own ds) ∧ we ρ θ (fun y θ' => ∃ (q : Itm) (its : List Itm), ds = its.map itD ∧ y = .py (itD q) ∧ q ∈ its ∧ N.nx (ρ.set i (.own ((its.erase q).map itD))) θ') N.ex
theorem sx_remove (i : Nat) {x : Str} {p1 p2 p3 : Pos} (hu : X.A.units + 65 < cLine) (he : EX X L Wx .s e we) (hN : X.N[i]? = some x := by rfl) (hv : Vis X.env.scope x := by first | exact Or.inl rfl | exact Or.inr (Or.inl rfl) | exact Or.inr (Or.inr rfl)) (hd : (x == ("__debug__" : Str)) = false := by decide)
    (hcd : (x == ("__classdict__" : Str)) = false := by decide) (hbase : attributeBase (.Name x p1) "remove" X.env (eval (.Name x p1) X.env) = eval (.Name x p1) X.env := by rfl)
    (hfew : ((backTo p3 (starEach [e] X.env)).all (fun x => !x.1) && (backToKw p3 (keywordEach [] X.env)).all (fun x => x.1.isSome) && decide ([e].length + ([] : List Keyword).length + (if ([] : List Keyword).isEmpty then 0 else 1) < 30)) = true := by rfl)
    (hline : (p2.endLine == p3.line) = true := by rfl) (hs : starEach [e] X.env = (false, eval e X.env) :: starEach [] X.env := by rfl) (hplain : (backTo p3 (starEach [] X.env)).any (·.1) = false := by rfl)
    (hsw : swapsWith (.Call (.Attribute (.Name x p1) "remove" p2) [e] [] p3) none pos.line X.env = pure false := by rfl) :
    SX X L Wx (.Expr (.Call (.Attribute (.Name x p1) "remove" p2) [e] [] p3) pos) (wRemove i we) := by
  obtain ⟨t, a1, a2⟩ := he
  refine ⟨_, ps_expr (pe_bm PySem.F.plainAttrs_list PySem.F.slot_list_remove PySem.F.type_list_remove (mt_removeD hu) (pe_var hN hv hd hcd) (pa_cons a1 pa_nil hs) hbase hfew hline hs hplain) hsw, fun M0 M σ ρ θ E N e rep j hw f => ?_⟩
  obtain ⟨ds, h, hw⟩ := hw
  obtain ⟨a, xs, s0, g0, z0, h0, hx0, _⟩ := rep.getOwn h
  refine ⟨_, s0, .inl ⟨rfl, xs, .of hx0⟩, ?_⟩
  refine a2 M0.H M σ ρ θ _ _ N.ex rep j hw (fun y θ1 M1 v1 e1 j1 r1 n1 => ?_) (fun k θ' M' e' j' n => f.ex M' σ k θ' (e.trans e') j' n)
  obtain ⟨q, its, rfl, rfl, hq, n⟩ := n1
  have rep1 := rep.ext e1
  obtain ⟨a', xs', s', g1, z1, h1, hx', rx⟩ := rep1.getOwn h
  have ea : a' = a := by
    have q := s'.symm.trans s0
    injection q with q
    injection q with q
    injection q
  subst ea
  obtain ⟨pj, hp, he⟩ := place_erase q its hq
  have ry := rx
  refine ⟨a', xs', v1, itD q, its.map itD, pj, rfl, rfl, hx', (rx.mono e1.ok.g).dp X.K, (Dr.mono e1.ok.g (show Dr M1.G v1 (itD q) from r1)).dp X.K, its_plain its, (it_plain q).1, (it_plain q).2, hp, ?_⟩
  have hr : DrAll M1.G (xs'.eraseIdx pj) ((its.erase q).map itD) := by
    rw [← he, ← map_eraseIt]
    exact drall_erase pj rx
  exact own_write (e.trans e1) rep1 j1 h s0 hr n e1.g f
end
/-! pick(draws, xs) -/
section
variable {X : Cx} {K : PySem.W.Frag} {C : EK → Addr} {Wx : WX} {pos p p1 p2 : Pos}
def Wd.hide (G : Hp) (a : Addr) : Hp := fun b => if b = a then none else G b
def wPickO (spec : Spec DrawSt) (i j : Nat) : WE DrawSt := fun ρ θ N _ => ∃ d ds, ρ[i]? = some (.is d) ∧ ρ[j]? = some (.own ds) ∧ spec [d, .py (.list ds)] θ (fun e θ' => (∃ (q : Itm) (b : Addr), e = .py (itD q) ∧ θ' = .on b) ∧ N e θ') (fun _ _ => False)
theorem ex_pickO (i j : Nat) {k : Nat} {x x1 x2 : Str} {spec : Spec DrawSt} (tk : Takes X Wx) (c : CalD X.prog X.w X.K X.mg X.base k x (VD K C) spec) (hr : Room k X.A) (hg : Gl X x) (hN1 : X.N[i]? = some x1 := by rfl) (hv1 : Vis X.env.scope x1 := by first | exact Or.inl rfl | exact Or.inr (Or.inl rfl) | exact Or.inr (Or.inr rfl)) (hd1 : (x1 == ("__debug__" : Str)) = false := by decide)
    (hcd1 : (x1 == ("__classdict__" : Str)) = false := by decide) (hN2 : X.N[j]? = some x2 := by rfl) (hv2 : Vis X.env.scope x2 := by first | exact Or.inl rfl | exact Or.inr (Or.inl rfl) | exact Or.inr (Or.inr rfl)) (hd2 : (x2 == ("__debug__" : Str)) = false := by decide)
    (hcd2 : (x2 == ("__classdict__" : Str)) = false := by decide) (hdb : (x == ("__debug__" : Str)) = false := by decide) (hs2 : starEach [.Name x2 p2] X.env = (false, eval (.Name x2 p2) X.env) :: starEach [] X.env := by rfl) (he : starEach [.Name x1 p1, .Name x2 p2] X.env = (false, eval (.Name x1 p1) X.env) :: starEach [.Name x2 p2] X.env := by rfl) (hpl : (backTo pos (starEach [.Name x2 p2] X.env)).any (·.1) = false := by rfl) :
    EX X (VD K C) Wx .s (.Call (.Name x p) [.Name x1 p1, .Name x2 p2] [] pos) (wPickO spec i j) := by
  obtain ⟨f, fd, ps, F, hm, hk, hb⟩ := c
  refine ⟨_, pe_callS F hr hg hm hk hb (fun σ => passAt tk σ) (pa_cons (pe_var hN1 hv1 hd1 hcd1) (pa_cons (pe_var hN2 hv2 hd2 hcd2) pa_nil hs2) he) hdb he hpl, ?_⟩
  intro H0 M σ ρ θ Q N Nx rep jj hw hN hX
  obtain ⟨d, ds, h1, h2, sp⟩ := hw
  obtain ⟨v1, s1, r1⟩ := rep.get h1
  obtain ⟨a, xs, s2, ga, za, h0, hx, rx⟩ := rep.getOwn h2
  refine ⟨v1, s1, .ref a, s2, ?_⟩
  have sg : Same M.G (upd M.G a (.lst xs)) := upd_same_of ga
  have okf : (M.frz a (.lst xs)).Ok := by
    refine ⟨fun b o q => ?_, rep.ok.z, fun b o q => ?_⟩
    · by_cases hb : b = a
      · subst hb
        have q' : upd M.G b (.lst xs) b = some o := q
        rw [upd_same] at q'
        rw [← q']
        exact hx
      · have q' : upd M.G a (.lst xs) b = some o := q
        rw [upd_ne hb] at q'
        exact rep.ok.g _ _ q'
    · by_cases hb : b = a
      · rw [hb]
        exact za
      · have q' : upd M.G a (.lst xs) b = some o := q
        rw [upd_ne hb] at q'
        exact rep.ok.d _ _ q'
  refine ⟨M.frz a (.lst xs), θ, [d, .py (.list ds)], fun e θ' => (∃ (q : Itm) (b : Addr), e = .py (itD q) ∧ θ' = .on b) ∧ N e θ', fun _ _ => False, rfl, okf, (VD K C).mono sg jj, .cons (Rv.mono sg r1) (.cons (Dr.lst upd_same (rx.mono sg)) .nil), sp, fun e θ' M' v e' j' r n => ?_, fun _ _ _ _ _ h => h.elim⟩
  obtain ⟨⟨q, b, rfl, rfl⟩, n⟩ := n
  have fa : (M.frz a (.lst xs)).H a = some (.lst xs) := hx
  obtain ⟨k1, k2, k3⟩ := e'.k a _ fa za
  -- the list is the def's own again
  have sub : ∀ b o, Wd.hide M'.G a b = some o → M'.G b = some o := fun b o h => by
    unfold Wd.hide at h
    split at h
    · cases h
    · exact h
  have e2 : Ext M ⟨Wd.hide M'.G a, M'.Z, M'.H⟩ := by
    refine ⟨⟨fun b o h => e'.ok.g b o (sub b o h), e'.ok.z, fun b o h => e'.ok.d b o (sub b o h)⟩, fun b o h => ?_, fun b h => e'.t b h, fun b o h z => ?_⟩
    · have nb : b ≠ a := fun q => by
        rw [q, ga] at h
        cases h
      show Wd.hide M'.G a b = some o
      unfold Wd.hide
      rw [if_neg nb]
      exact e'.g b o (sg b o h)
    · obtain ⟨q1, q2, q3⟩ := e'.k b o h z
      refine ⟨q1, ?_, q3⟩
      show Wd.hide M'.G a b = M.G b
      unfold Wd.hide
      by_cases nb : b = a
      · rw [if_pos nb, nb, ga]
      · rw [if_neg nb, q2]
        show upd M.G a (.lst xs) b = _
        rw [upd_ne nb]
  have dr : Dr (Wd.hide M'.G a) v (itD q) := by
    cases (show Dr M'.G v (.tuple [.int q.1, .int q.2.1, .int q.2.2]) from r) with
    | tup h rr =>
      rename_i c ys
      have nc : c ≠ a := fun z => by
        rw [z, k2] at h
        have h' : upd M.G a (.lst xs) a = some (.tup ys) := h
        rw [upd_same] at h'
        cases h'
      have ei : ys = [V.int q.1, V.int q.2.1, V.int q.2.2] := DrAll.ints (ns := [q.1, q.2.1, q.2.2]) rr
      subst ei
      refine .tup (xs := [V.int q.1, V.int q.2.1, V.int q.2.2]) ?_ (.of_ints [q.1, q.2.1, q.2.2])
      unfold Wd.hide
      rw [if_neg nc]
      exact h
  exact hN (.py (itD q)) (.on b) ⟨Wd.hide M'.G a, M'.Z, M'.H⟩ v e2 j' dr n
end
/-! len(set([tuple(one) for one in xs])) -/
section
variable {X : Cx} {L : Vl} {Wx : WX} {m : Md} {a : Expr} {wa : WE L.Θ} {pos p p2 : Pos}
def rLenN (w : World) : List V → Hp → VK → Prop := fun xs H Q => ∃ (a : Addr) (S : List (Addr × List (List Int))), xs = [V.ref a] ∧ H a = some (SetNO w a (keysOf S)) ∧ Q (.int S.length) H
theorem cr_lenN : CallR X (.builtin "len") (rLenN X.w) := by
  intro pins s σ H xs us Q I r h
  obtain ⟨a, S, rfl, ha, q⟩ := h
  rw [Vals.ref1 r]
  obtain ⟨R, _⟩ := (show ObjOk X.prog X.w H s.heap a (SetNO X.w a (keysOf S)) from I.hok a _ ha)
  have R' : SetN0 X.w s.heap a (keysOf S) := R
  obtain ⟨es, ep, t, ⟨o, ho, hex, hd⟩, hrw, tb, nd, pl, ld, rm, fw⟩ := R'.ex
  have sz : es.size = S.length := by
    rw [rows_size hrw]
    unfold keysOf
    rw [List.length_map]
  have hf : t.fits es.size = true := fits_of hrw (tb.sz.trans (hsOf_len _ _)) tb.dm (by omega)
  have lk : (keysOf S).length < 64 := fw
  have ls : S.length < 64 := by
    unfold keysOf at lk
    rw [List.length_map] at lk
    exact lk
  exact call_len_set ho hex hd hf (by rw [sz]; omega) ⟨.int S.length, H, I.tok _, ⟨_, by rw [sz]⟩, q⟩
def wLenNk {Θ : Type} (wa : WE Θ) : WE Θ := fun ρ θ N Nx => wa ρ θ (fun x θ1 => ∃ ts : List (List Itm), x = .py (.list (ts.map covD)) ∧ ts.length < 64 ∧ ts.Nodup ∧ N (.py (.int (ts.length : Nat))) θ1) Nx
theorem ex_lenNk {p3 : Pos} (hu : X.A.units + 65 < cLine) (hc : X.calm = true) (hm : X.mg "len" = none) (hm2 : X.mg "set" = none) (hg : Gl X "len") (hg2 : Gl X "set") (ha : EX X L Wx m a wa)
    (h1 : starEach [a] X.env = (false, eval a X.env) :: starEach [] X.env := by rfl) (h2 : starEach [.Call (.Name "set" p3) [a] [] p2] X.env = (false, eval (.Call (.Name "set" p3) [a] [] p2) X.env) :: starEach [] X.env := by rfl) :
    EX X L Wx .s (.Call (.Name "len" p) [.Call (.Name "set" p3) [a] [] p2] [] pos) (wLenNk wa) := by
  obtain ⟨t, a1, a2⟩ := ha
  refine ⟨_, pe_callB cr_lenN hg hm PySem.boot_len (pa_cons (pe_callTy (cr_setN hc (by omega)) hg2 hm2 (by decide +kernel) (pa_cons a1 pa_nil h1) (by decide) (by decide) h1 rfl) pa_nil h2) (by decide) (by decide) h2 rfl, fun H0 M σ ρ θ Q N Nx rep j hw hN hX => ?_⟩
  refine a2 H0 M σ ρ θ _ _ Nx rep j hw (fun x θ1 M1 v1 e1 j1 r1 n1 => ?_) hX
  obtain ⟨ts, rfl, hl, hnd, n⟩ := n1
  obtain ⟨l, xs, rfl, hL, dr⟩ := Re.list e1.ok r1.r
  rw [covD_eq] at dr
  obtain ⟨ps, rfl, e2, hp⟩ := covs_dr dr
  have pl : ps.length = ts.length := by
    have := congrArg List.length e2
    simpa using this
  refine ⟨l, ps, rfl, .of hL, fun p hp' => (hp p hp').1.same e1.ok.g, by omega, fun q S nq nd hin hall => ?_⟩
  have hnd2 : (ps.map (·.2)).Nodup := by
    rw [e2]
    exact List.pairwise_map.mpr (List.Pairwise.imp (fun h e => h (itLs_inj e)) hnd)
  have sl : S.length = ts.length := by
    have h1 : (S.map (·.2)).length ≤ (ps.map (·.2)).length := pigeon nd fun x hx => by
      obtain ⟨p, h1, rfl⟩ := List.mem_map.mp hx
      exact List.mem_map.mpr ⟨p, hin p h1, rfl⟩
    have h2 : (ps.map (·.2)).length ≤ (S.map (·.2)).length := pigeon hnd2 fun x hx => by
      obtain ⟨p, h1, rfl⟩ := List.mem_map.mp hx
      exact hall p h1
    simp only [List.length_map] at h1 h2
    omega
  obtain ⟨gq, zq⟩ := e1.ok.free nq
  have x1 : Ext M1 (M1.put q (SetNO X.w q (keysOf S))) := ext_put (.refl e1.ok) gq zq nq
  refine ⟨q, S, rfl, upd_same, ?_⟩
  rw [sl]
  exact hN (.py (.int (ts.length : Nat))) θ1 (M1.put q (SetNO X.w q (keysOf S))) _ (e1.trans x1) j1 (Dr.int _) n
end
/-! x = list(e), x an own list -/
section
variable {X : Cx} {L : Vl} {Wx : WX} {m : Md} {e : Expr} {we : WE L.Θ} {pos p p3 : Pos}
def wNewCopy {Θ : Type} (i : Nat) (we : WE Θ) : WS Θ := fun N ρ θ => we ρ θ (fun y θ' => ∃ ds, y = .py (.list ds) ∧ N.nx (ρ.set i (.own ds)) θ') N.ex
theorem sx_newCopy (i : Nat) {x : Str} {pos' : Pos} (hm : X.mg "list" = none) (hg : Gl X "list") (hN : X.N.Nodup) (he : EX X L Wx m e we) (hi : X.N[i]? = some x := by rfl) (hx : Loc X.env.scope x := by first | exact Or.inl rfl | exact Or.inr rfl) (h1 : starEach [e] X.env = (false, eval e X.env) :: starEach [] X.env := by rfl) (hs : swapsWith (.Call (.Name "list" p) [e] [] p3) (some (.Name x pos')) pos.line X.env = pure false := by rfl)
    (hf : X.fn x = true ∨ X.env.scope.names.lookup x = some .local := by first | exact .inl rfl | exact .inr rfl | assumption) : SX X L Wx (.Assign [.Name x pos'] (.Call (.Name "list" p) [e] [] p3) pos) (wNewCopy i we) := by
  obtain ⟨t, a1, a2⟩ := he
  refine ⟨_, ps_set hN hi hx (pe_callTy call_list_of hg hm (by decide +kernel) (pa_cons a1 pa_nil h1) (by decide) (by decide) h1 rfl) hs hf, fun M0 M σ ρ θ E N e rep j hw f => ?_⟩
  refine a2 M0.H M σ ρ θ _ _ N.ex rep j hw (fun y θ1 M1 v1 e1 j1 r1 n1 => ?_) (fun k θ' M' e' j' n => f.ex M' σ k θ' (e.trans e') j' n)
  obtain ⟨ds, rfl, n⟩ := n1
  obtain ⟨b, zs, rfl, hb, rz⟩ := Re.list e1.ok r1.r
  have e2 := e.trans e1
  refine ⟨b, zs, rfl, .inl (.of hb), fun q nq => ?_⟩
  exact f.nx (M1.put q (.lst zs)) _ _ θ1 (ext_put e2 (e1.ok.free nq).1 (e1.ok.free nq).2 (e2.t q nq)) e1.g ((rep.ext e1).newOwn i nq (e2.t q nq) rz) j1 n
end
end RT
end
section
set_option Elab.async false
set_option linter.all false
set_option maxRecDepth 100000
set_option maxHeartbeats 4000000
/-! ### sorted(xs), xs a list of lists of items (by KE's sort of data) -/
namespace RT
open PySem PySem.Spec PyProof.Rows L2
variable {X : Cx} {L : Vl} {Wx : WX} {C : EK → Addr} {m : Md} {a : Expr} {wa : WE L.Θ} {pos p p2 : Pos}
abbrev srtZ (xs : List V) (ds : List PyData) : List (V × PyData) := (xs.zip ds).mergeSort (PySem.W.dataLe false (fun b : V × PyData => b.2))
def rSortD (K : PySem.W.Frag) : List V → Hp → VK → Prop := fun vs H Q => ∃ (a : Addr) (xs : List V) (ds : List PyData), vs = [V.ref a] ∧ SqL K H a xs ∧ DpAll K H xs ds ∧ PySem.W.AllAlike ds ∧ PySem.W.Sortable ds ∧ (∀ d ∈ ds, d.depth ≤ 8) ∧
  ∀ q, H q = none → Q (.ref q) (upd H q (.lst ((srtZ xs ds).map (·.1))))
theorem dpAll_len {K : PySem.W.Frag} {H : Hp} : ∀ {xs : List V} {ds : List PyData}, DpAll K H xs ds → xs.length = ds.length
  | _, _, .nil => rfl
  | _, _, .cons _ r => congrArg Nat.succ (dpAll_len r)
theorem zip_snd : ∀ {xs : List V} {ds : List PyData}, xs.length = ds.length → (xs.zip ds).map (·.2) = ds
  | [], [], _ => rfl
  | x :: xs, d :: ds, h => by
    rw [List.zip_cons_cons, List.map_cons, zip_snd (by simpa using h)]
  | [], _ :: _, h => by simp at h
  | _ :: _, [], h => by simp at h
theorem each_vals : ∀ {xs : List V} {ds : List PyData} {us : List Value}, xs.length = ds.length → Vals xs us → PySem.W.EachIs (fun (u : Value) (b : V × PyData) => RelV b.1 u) us (xs.zip ds)
  | [], [], _, _, .nil => .nil
  | x :: xs, d :: ds, _, h, .cons r t => .cons r (each_vals (by simpa using h) t)
  | [], _ :: _, _, h, _ => by simp at h
theorem vals_each : ∀ {us : List Value} {bs : List (V × PyData)}, PySem.W.EachIs (fun (u : Value) (b : V × PyData) => RelV b.1 u) us bs → Vals (bs.map (·.1)) us
  | _, _, .nil => .nil
  | _, _, .cons r t => .cons r (vals_each t)
theorem each_reads {pins : List (Addr × Obj)} {σ : L2.St} {H : Hp} {s : Shared} (I : Inv X pins σ H s) : ∀ {xs : List V} {ds : List PyData} {us : List Value}, DpAll X.K H xs ds → Vals xs us → PySem.W.EachIs (fun (u : Value) (b : V × PyData) => ∃ as, Reads s.heap u b.2 as) us (xs.zip ds)
  | _, _, _, .nil, .nil => .nil
  | _, _, _, .cons d r, .cons v t => .cons (Dp.reads I _ _ _ d v) (each_reads I r t)
theorem cr_sortD (hu : X.A.units + 65 < cLine) : CallR X (.builtin "sorted") (rSortD X.K) := by
  intro pins s σ H vs us Q I r h
  obtain ⟨a, xs, ds, rfl, hs, hd, hal, hk, hdp, q⟩ := h
  obtain ⟨its, rv, hl, hz⟩ := I.list hs
  rw [Vals.ref1 r]
  have ll := dpAll_len hd
  have lz : (xs.zip ds).length = xs.length := by rw [List.length_zip]; omega
  have em := zip_snd ll
  refine PySem.W.sorted_data (bs := xs.zip ds) (enc := fun b => b.2) hl.isList (each_vals ll rv) (each_reads I hd rv) (by rw [em]; exact hal) (by rw [em]; exact hk) (by rw [lz]; exact hz) (fun b hb => ?_) fun out ho hr => ?_
  · have : b.2 ∈ ds := by
      rw [← em]
      exact List.mem_map.mpr ⟨b, hb, rfl⟩
    have := hdp _ this
    omega
  · obtain ⟨n, hn⟩ := PyProof.Rows.sortedAll_at s.heap its (List.toArray out)
    have d1 : s.heap.objs.size ≤ s.heap.objs.size + 1 := Nat.le_succ _
    refine ⟨.ref (s.heap.objs.size + 1), upd H (s.heap.objs.size + 1) (.lst ((srtZ xs ds).map (·.1))), I.laid (t' := s.toks) (fun b o e => PyProof.Rows.sortedAll_old e) d1 ⟨?_, out, n, vals_each hr, hn⟩, rfl, q (s.heap.objs.size + 1) (I.hok.fresh d1)⟩
    rw [List.length_map, (List.mergeSort_perm _ _).length_eq, lz]
    exact hz
/-! #### the order of lists of items -/
def lD (t : List Itm) : PyData := .list (t.map itD)
theorem alike_it (p q : Itm) : PySem.W.alike (itD p) (itD q) = true := by
  simp [itD, PySem.W.alike, PySem.W.alikeAll]
theorem alike_its : ∀ t u : List Itm, PySem.W.alikeAll (t.map itD) (u.map itD) = true
  | [], _ => by simp [PySem.W.alikeAll]
  | _ :: _, [] => by simp [PySem.W.alikeAll]
  | p :: t, q :: u => by
    rw [List.map_cons, List.map_cons, PySem.W.alikeAll, alike_it, alike_its t u]
    rfl
theorem lexLt_lt : ∀ xs ys : List Int, HT.lexLt xs ys = decide (xs < ys)
  | [], [] => by simp [HT.lexLt]
  | [], _ :: _ => by simp [HT.lexLt]
  | _ :: _, [] => by simp [HT.lexLt]
  | x :: xs, y :: ys => by
    have ih := lexLt_lt xs ys
    simp only [HT.lexLt, List.cons_lt_cons_iff, ih]
    by_cases h : x = y
    · subst h
      simp
    · simp [h]
theorem dataLt_it (p q : Itm) : PySem.W.dataLt (itD p) (itD q) = HT.lexLt (itL p) (itL q) := by
  rw [lexLt_lt, ← PySem.W.dataLt_ints]
  rfl
theorem dataLt_l : ∀ t u : List Itm, PySem.W.dataLt (lD t) (lD u) = ltC t u := by
  intro t u
  unfold lD
  rw [PySem.W.dataLt_list]
  unfold ltC
  induction t generalizing u with
  | nil =>
    cases u with
    | nil => rfl
    | cons q u => rfl
  | cons p t ih =>
    cases u with
    | nil => rfl
    | cons q u =>
      rw [List.map_cons, List.map_cons, PySem.W.dataLt_cons (alike_it p q), ih u, dataLt_it, eqv_itD]
      show _ = if itL p = itL q then lexC (t.map itL) (u.map itL) else HT.lexLt (itL p) (itL q)
      by_cases e : p = q
      · subst e
        simp
      · rw [if_neg (by simpa using e), if_neg (fun z => e (itL_inj z))]
/-- mergeSort of such lists is the sort by ltC -/
theorem msort_l (ts : List (List Itm)) : (ts.map lD).mergeSort (PySem.W.dataLe false fun d : PyData => d) = (sortB ltC ts).map lD := by
  have e1 := List.map_mergeSort (f := lD) (l := ts) (r := fun t u => !ltC u t) (s := PySem.W.dataLe false fun d : PyData => d) fun t _ u _ => by
    rw [PySem.W.dataLe_eq]
    show (!ltC u t) = !PySem.W.dataLt (lD u) (lD t)
    rw [dataLt_l]
  rw [← e1]
  congr 1
  refine srt_uniq swo_ltC (fun _ _ => ltC_eq) ((List.mergeSort_perm _ _).trans (sortB_perm _).symm) ?_ (sortB_srtd swo_ltC ts)
  have := List.pairwise_mergeSort (le := fun t u => !ltC u t) (fun x y z h1 h2 => by
    simp only [Bool.not_eq_true'] at h1 h2 ⊢
    exact swo_ltC.tr x y z h1 h2) (fun x y => by
    cases h : ltC y x with
    | false => rfl
    | true => rw [swo_ltC.asym _ _ h]; rfl) ts
  refine List.Pairwise.imp (fun {x y} h => ?_) this
  simpa using h
theorem depth_its (t : List Itm) : PyData.depthAll (t.map itD) ≤ 1 := by
  induction t with
  | nil => simp [PyData.depthAll]
  | cons q t ih =>
    have : (itD q).depth = 1 := by simp [itD, PyData.depth, PyData.depthAll]
    rw [List.map_cons, PyData.depthAll]
    omega
def wSortLL {Θ : Type} (wa : WE Θ) : WE Θ := fun ρ θ N Nx => wa ρ θ (fun x θ1 => ∃ ts : List (List Itm), x = .py (.list (ts.map lD)) ∧ N (.py (.list ((sortB ltC ts).map lD))) θ1) Nx
theorem ex_sortLL (hu : X.A.units + 65 < cLine) (hm : X.mg "sorted" = none) (hg : Gl X "sorted") (ha : EX X L Wx m a wa)
    (h1 : starEach [a] X.env = (false, eval a X.env) :: starEach [] X.env := by rfl) :
    EX X L Wx .s (.Call (.Name "sorted" p) [a] [] pos) (wSortLL wa) := by
  obtain ⟨t, a1, a2⟩ := ha
  refine ⟨_, pe_callB (cr_sortD hu) hg hm (by decide +kernel) (pa_cons a1 pa_nil h1) (by decide) (by decide) h1 rfl, fun H0 M σ ρ θ Q N Nx rep j hw hN hX => ?_⟩
  refine a2 H0 M σ ρ θ _ _ Nx rep j hw (fun x θ1 M1 v1 e1 j1 r1 n1 => ?_) hX
  obtain ⟨ts, rfl, n⟩ := n1
  obtain ⟨l, xs, rfl, hL, dr⟩ := Re.list e1.ok r1.r
  have ll : xs.length = (ts.map lD).length := dr.len
  have em := zip_snd ll
  refine ⟨l, xs, ts.map lD, rfl, .of hL, (dr.mono e1.ok.g).dp X.K, fun d hd d' hd' => ?_, .inr fun d hd => ?_, fun d hd => ?_, fun q nq => ?_⟩
  · obtain ⟨t, _, rfl⟩ := List.mem_map.mp hd
    obtain ⟨u, _, rfl⟩ := List.mem_map.mp hd'
    unfold lD
    rw [PySem.W.alike]
    exact alike_its t u
  · obtain ⟨t, _, rfl⟩ := List.mem_map.mp hd
    exact ⟨nofun, nofun⟩
  · obtain ⟨t, _, rfl⟩ := List.mem_map.mp hd
    have := depth_its t
    unfold lD
    rw [PyData.depth]
    omega
  · have ez : ∀ {xs : List V} {ds : List PyData}, DrAll M1.G xs ds → ∀ b ∈ xs.zip ds, Dr M1.G b.1 b.2 := by
      intro xs ds h
      induction ds generalizing xs with
      | nil =>
        cases h
        intro b hb
        cases hb
      | cons d ds ih =>
        cases h with
        | cons h1 h2 =>
          intro b hb
          rcases List.mem_cons.mp hb with rfl | hb
          · exact h1
          · exact ih h2 b hb
    have all : ∀ {bs : List (V × PyData)}, (∀ b ∈ bs, Dr M1.G b.1 b.2) → DrAll M1.G (bs.map (·.1)) (bs.map (·.2)) := by
      intro bs
      induction bs with
      | nil => exact fun _ => .nil
      | cons b bs ih => exact fun h => .cons (h b List.mem_cons_self) (ih fun c hc => h c (List.mem_cons_of_mem _ hc))
    have e2 : (srtZ xs (ts.map lD)).map (·.2) = (sortB ltC ts).map lD := by
      have e1 := List.map_mergeSort (f := fun b : V × PyData => b.2) (l := xs.zip (ts.map lD)) (r := PySem.W.dataLe false (fun b : V × PyData => b.2)) (s := PySem.W.dataLe false fun d : PyData => d) fun b _ c _ => rfl
      rw [← msort_l]
      exact e1.trans (congrArg (fun z => z.mergeSort (PySem.W.dataLe false fun d : PyData => d)) em)
    have dl : DrAll M1.G ((srtZ xs (ts.map lD)).map (·.1)) ((sortB ltC ts).map lD) := by
      rw [← e2]
      exact all fun b hb => ez dr b ((List.mergeSort_perm _ _).mem_iff.mp hb)
    have x2 := Ext0.add e1.ok (o := .lst ((srtZ xs (ts.map lD)).map (·.1))) nq
    exact hN (.py (.list ((sortB ltC ts).map lD))) θ1 _ (.ref q) (e1.trans x2.1) (L.ext0 ⟨x2.1, rfl⟩ j1) (Dr.lst add_at (dl.mono x2.1.g)) n
end RT
end
section
set_option Elab.async false
set_option linter.all false
set_option maxRecDepth 100000
set_option maxHeartbeats 8000000
namespace RT
open PySem PySem.Spec PyProof.Rows L2
local macro_rules | `(tactic| simp_arith! [$ts,*] $[$loc]?) => `(tactic| simp only [$ts,*, wCount, wIndex, wIsX, wTry, wVar, wOwn, wC, wOp, wT, wChain, wAndT, wOrT, wNotT, wAnd, wOr, wNot, wIf, wNil, wCons, wDisp, wCall, wCall0, wNoPart, wPart, wSl, wRevL, wBlt, wItL, wItT, wItS, wRg1, wRg2, wEnum, wZip, wLR, wLR2, wYes, wM1, wFmt, wJoined, wIsi, wNeg, wNewD, wOwnCat, wPar2, wNext, wSeq, wNever, wSet, wNew, wAug, wExtend, wAppend, wPut, wFrz, wRet, wRetOwn, wRetN, wDrop, wIfS, wgName, wgTup, wUnp, wRaise, bodyEN, wLc, wFor, wSortSet, e_add_i, e_add_s, e_add_l, e_add_t, e_kadd_i, e_kadd_s, e_kadd_l, e_kadd_t, e_sub, e_kt, e_mul_i, e_mul_l, e_kmul_i, e_kmul_l, e_div, e_kdiv, e_mod, e_kmod, e_cmp, e_eq, e_ne, e_keq, e_is_n, e_is_b, e_isn_n, e_isn_b, e_non_n, e_non_l, e_non_t, e_non_i, e_non_s, e_non_b, e_non_x, e_in_l, e_in_t, e_ni_l, e_ni_t, e_kin_l, e_kin_t, e_kin_s, e_ix_l, e_ix_t, e_ix_s, e_kix_l, e_kix_t, e_kix_s, e_sl_l, e_sl_t, e_sl_s, e_len_l, e_len_t, e_len_s, e_klen_l, e_klen_t, e_klen_s, e_kany, e_list_l, e_list_t, e_tup_l, e_tup_t, e_sum, e_max, e_max2, e_min, e_kne, e_kne2, e_all, e_str, e_kstr, e_int, e_kint, e_split, e_ksplit, e_part, e_kpart, e_join, e_kjoin, e_pys0, e_pys1, e_sa0, e_sa1, e_wipe0, e_wipe1, e_js0, e_js1, e_ty_i, e_ty_b, e_ty_n, e_ty_s, e_ty_l, e_ty_t, e_isi_ii, e_isi_ib, e_isi_in, e_isi_is, e_isi_il, e_isi_it, e_isi_bi, e_isi_bb, e_isi_bn, e_isi_bs, e_isi_bl, e_isi_bt, e_isi_li, e_isi_lb, e_isi_ln, e_isi_ls, e_isi_ll, e_isi_lt, e_isi_ti, e_isi_tb, e_isi_tn, e_isi_ts, e_isi_tl, e_isi_tt, e_isi_si, e_isi_sb, e_isi_sn, e_isi_ss, e_isi_sl, e_isi_st, e_up, e_st0, e_st1, e_st2, exists_eq_left, exists_eq_left', exists_eq_right, exists_eq_right', exists_eq', exists_eq, true_and, and_true, and_self, false_and, and_false, exists_and_left, exists_and_right, exists_const, Option.some.injEq, Option.map_some, Option.map_none, Sl.is.injEq, Sl.own.injEq, D.py.injEq, D.ex.injEq, D.rf.injEq, PyData.int.injEq, PyData.bool.injEq, PyData.str.injEq, PyData.list.injEq, PyData.tuple.injEq, List.cons.injEq, if_true, if_false, eq_self, Bool.false_eq_true, Bool.true_eq_false, Bool.not_true, Bool.not_false, Bool.not_not, List.getElem?_cons_zero, List.getElem?_cons_succ, List.set_cons_zero, List.set_cons_succ, List.length_cons, List.length_nil, List.cons_append, List.nil_append, reduceCtorEq, List.replicate_zero, List.replicate_succ, Nat.reduceAdd, Nat.reduceSub, decide_true, decide_false, intsOf_map', blsOf_map', strsOf_map', map_int_inj, map_str_inj, map_bool_inj, map_itD_inj, itD_iff, sh_int, sh_bool, sh_none, sh_itD, sh_nil, sh_ints, sh_its, eqv_int, eqv_bool, eqv_str, eqv_itD, eqv_ints, eqv_strs, eqv_its, eqv_nil, Nat.zero_le, and_assoc] $[$loc]?)
/-! ### k11 -/
theorem short_need {a : List Int} {its : List Itm} (h : TT a its) (hs : ((joinI its).length : Int) = shortI a) : idleAt its = none := by
  cases e : idleAt its with
  | none => rfl
  | some i =>
    exfalso
    obtain ⟨hi, hp⟩ := idle_some e
    obtain ⟨n1, n2⟩ := needP_iff.mp hp
    have ok := all_of h.all fun q hq => cutI_mem (i := i) hq
    have h1 := short_le ok n1
    rw [n2, h.st, joinI_cost n1] at h1
    rw [joinI_cost h.ne] at hs
    have h2 : sumI cstOf its = sumI cstOf (cutI its i) + cstOf (its[i]'hi) := by
      have e1 : its = its.take i ++ (its[i]'hi :: its.drop (i + 1)) := by simp
      have e2 : sumI cstOf (its[i]'hi :: its.drop (i + 1)) = cstOf (its[i]'hi) + sumI cstOf (its.drop (i + 1)) := rfl
      conv => lhs; rw [e1]
      unfold cutI
      rw [sumI_app, sumI_app, e2]
      omega
    have h3 := cst_pos (its[i]'hi)
    omega
theorem upTo_ten {m : Int} (h1 : 1 ≤ m) (h2 : m ≤ 10) {ns : List Int} (h : ns ∈ subs (upTo m)) : ns ∈ subs ten ∧ ∀ k ∈ ns, k ≤ m := by
  have hs := subs_sub h
  have le : ∀ k ∈ ns, 1 ≤ k ∧ k ≤ m := fun k hk => (mem_upTo h1).mp (hs.subset hk)
  have asc : (upTo m).Pairwise (· < ·) := by
    unfold upTo rgI
    rw [List.pairwise_map]
    exact List.Pairwise.imp (fun {x y} h => by omega) List.pairwise_lt_range
  refine ⟨?_, fun k hk => (le k hk).2⟩
  have e : ns = ten.filter fun k => decide (k ∈ ns) := asc_uniq (List.Pairwise.sublist hs asc) (List.Pairwise.filter _ ten_asc) fun k => by
    rw [List.mem_filter]
    exact ⟨fun hk => ⟨ten_of ⟨(le k hk).1, by have := (le k hk).2; omega⟩, decide_eq_true hk⟩, fun hk => of_decide_eq_true hk.2⟩
  rw [e]
  exact filter_subs _ _
theorem any_its (q : Itm) (its : List Itm) : ((its.map itD).any fun z => PyData.eqv z (itD q)) = decide (q ∈ its) := by
  rw [List.any_map]
  simp only [Function.comp_def, eqv_itD]
  cases h : decide (q ∈ its) with
  | true => exact List.any_eq_true.mpr ⟨q, of_decide_eq_true h, decide_eq_true rfl⟩
  | false =>
    have := of_decide_eq_false h
    cases c : its.any fun x => decide (x = q) with
    | false => rfl
    | true =>
      obtain ⟨x, hx, e⟩ := List.any_eq_true.mp c
      rw [of_decide_eq_true e] at hx
      exact absurd hx this
/-- an order of a shortest cover -/
structure Ord (a : List Int) (t o : List Itm) : Prop where
  p : o.Perm t
  T : TT a o
  l : ((joinI o).length : Int) = shortI a
theorem ord_of {a : List Int} (ha : a ∈ subs ten) (na : a ≠ []) {t o : List Itm} (ht : t ∈ coversOf a) (p : o.Perm t) : Ord a t o := by
  obtain ⟨T, l⟩ := tt_cover ha na ht
  have ne : o ≠ [] := fun e => by
    rw [e] at p
    exact T.ne (List.nil_perm.mp p)
  refine ⟨p, tt_of (all_of T.all fun q hq => p.mem_iff.mp hq) ne ?_ (by rw [p.length_eq]; exact T.len), ?_⟩
  · rw [← T.st]
    refine set_ext (setOf_subs _) (setOf_subs _) fun k => ?_
    simp only [mem_setOf, p.mem_iff]
  · rw [← l, joinI_cost ne, joinI_cost T.ne, sumI_perm p]
theorem ways_pos : ∀ n : Nat, n ≤ 10 → 1 ≤ waysN n := by decide +kernel
theorem count_ge {a : List Int} (ha : a ∈ subs ten) : ((coversOf a).length : Int) ≤ countOf a := by
  have h : ∀ l : List (List Itm), (∀ t ∈ l, t.length ≤ 10) → (l.length : Int) ≤ (l.map ways).sum := by
    intro l
    induction l with
    | nil => exact fun _ => by decide
    | cons t l ih =>
      intro h
      have := ih fun u hu => h u (List.mem_cons_of_mem _ hu)
      have : 1 ≤ ways t := ways_pos _ (h t List.mem_cons_self)
      rw [List.map_cons, List.sum_cons, List.length_cons]
      omega
  exact h _ fun t ht => covers_len ha ht
theorem few_len {a : List Int} {its : List Itm} (h : TT a its) : fewI a ≤ (its.length : Int) := by
  have := few_le h.all
  rw [h.st] at this
  exact this
def spd_law : Spec DrawSt := fun ds θ N _ => ∃ s : Addr, ds = [.rf s] ∧ θ = .pre s ∧ ∀ a, N (.py (.bool true)) (.on a)
def w_law_18 : WS DrawSt :=
  wRet (wAnd (wOp fEq kEq (wCall0 sp_first_shortest (wCons (wVar 2) (wNil))) (wM1 fJoin kJoin (wC (.str ",")) (wLc (wItL (wOp fIx kIx (wVar 3) (wC (.int 0)))) (wgName 8) (wYes) (wCall0 sp_item_text (wCons (wVar 8) (wNil))) [8]))) (wOp fLe kTrue (wCall0 sp_fewest_items (wCons (wVar 2) (wNil))) (wBlt fMin kNe (wCons (wLc (wItL (wVar 3)) (wgName 13) (wYes) (wBlt fLen kLen (wCons (wVar 13) (wNil))) [13]) (wNil)))))
def w_law_17 : WS DrawSt :=
  wSeq (wIfS (wT (wOp fGt kTrue (wBlt fLen kLen (wCons (wVar 4) (wNil))) (wC (.int 1)))) (wSeq (wSet 11 (wCall spd_draw (wCons (wVar 1) (wCons (wBlt fLen kLen (wCons (wVar 6) (wNil))) (wNil))))) (wSeq (wSet 12 (wCall0 sp_without_item (wCons (wVar 7) (wCons (wVar 11) (wNil))))) (wIfS (wOrT (wT (wOp fEq kEq (wCall0 sp_parse (wCons (wVar 12) (wNil))) (wVar 2))) (wT (wOp fIsN kTrue (wCall0 sp_contains (wCons (wVar 2) (wCons (wVar 12) (wNil)))) (wC (.bool true))))) (wRet (wC (.bool false))) (wNext)))) (wNext)) w_law_18
def w_law_15 : WS DrawSt :=
  wSeq (wSet 10 (wLc (wItL (wVar 3)) (wgName 13) (wYes) (wBlt fSum kAny (wCons (wLc (wItL (wVar 13)) (wgName 8) (wYes) (wOp fAdd kAdd (wBlt fLen kLen (wCons (wCall0 sp_item_text (wCons (wVar 8) (wNil))) (wNil))) (wC (.int 1))) [8]) (wNil))) [13])) (wSeq (wIfS (wT (wOp fNe kEq (wVar 10) (wOp fMul kMul (wDisp .list (wCons (wOp fAdd kAdd (wCall0 sp_shortest_length (wCons (wVar 2) (wNil))) (wC (.int 1))) (wNil))) (wBlt fLen kLen (wCons (wVar 3) (wNil)))))) (wRet (wC (.bool false))) (wNext)) w_law_17)
def w_law_14 : WS DrawSt :=
  wSeq (wIfS (wOrT (wT (wOp fLt kTrue (wCall0 sp_count_shortest (wCons (wVar 2) (wNil))) (wBlt fLen kLen (wCons (wVar 3) (wNil))))) (wOrT (wT (wOp fNe kEq (wVar 3) (wSortLL (wVar 3)))) (wT (wOp fNe kEq (wLenNk (wLc (wItL (wVar 3)) (wgName 13) (wYes) (wBlt fTuple kAny (wCons (wVar 13) (wNil))) [13])) (wBlt fLen kLen (wCons (wVar 3) (wNil))))))) (wRet (wC (.bool false))) (wNext)) w_law_15
def w_law_12 : WS DrawSt :=
  wSeq (wSet 9 (wCall0 sp_with_item (wCons (wVar 7) (wCons (wCall spd_pick (wCons (wVar 1) (wCons (wCall0 sp__law_inside (wCons (wVar 2) (wNil))) (wNil)))) (wNil))))) (wSeq (wIfS (wOrT (wT (wOp fIsN kTrue (wCall0 sp_is_shortest (wCons (wVar 9) (wNil))) (wC (.bool false)))) (wOrT (wT (wOp fNe kEq (wCall0 sp_parse (wCons (wVar 9) (wNil))) (wVar 2))) (wT (wOp fNe kEq (wCall0 sp_shorter_by (wCons (wVar 9) (wNil))) (wOp fSub kTrue (wBlt fLen kLen (wCons (wVar 9) (wNil))) (wBlt fLen kLen (wCons (wVar 7) (wNil)))))))) (wRet (wC (.bool false))) (wNext)) w_law_14)
def w_law_11 : WS DrawSt :=
  wSeq (wFor (wItL (wVar 4)) (wgName 8) (wIfS (wOrT (wT (wOp fNi kIn (wVar 8) (wCall0 sp_items_within (wCons (wVar 2) (wNil))))) (wT (wOp fNe kEq (wLc (wItL (wCall0 sp_item_numbers (wCons (wVar 8) (wNil)))) (wgName 13) (wT (wOp fNi kIn (wVar 13) (wVar 2))) (wVar 13) [13]) (wDisp .list (wNil))))) (wRet (wC (.bool false))) (wNext))) w_law_12
def w_law_10 : WS DrawSt :=
  wSeq (wIfS (wOrT (wT (wOp fNe kEq (wCall0 sp_pruned (wCons (wVar 7) (wNil))) (wVar 7))) (wOrT (wT (wOp fIsN kTrue (wCall0 sp_mean_same (wCons (wVar 7) (wCons (wCall0 sp_first_shortest (wCons (wVar 2) (wNil))) (wNil)))) (wC (.bool true)))) (wT (wOp fNe kEq (wBlt fSorted kAny (wCons (wCall0 sp_items (wCons (wVar 7) (wNil))) (wNil))) (wVar 4))))) (wRet (wC (.bool false))) (wNext)) w_law_11
def w_law_8 : WS DrawSt :=
  wSeq (wSet 7 (wM1 fJoin kJoin (wC (.str ",")) (wLc (wItL (wVar 6)) (wgName 8) (wYes) (wCall0 sp_item_text (wCons (wVar 8) (wNil))) [8]))) (wSeq (wIfS (wOrT (wT (wOp fIsN kTrue (wCall0 sp_is_shortest (wCons (wVar 7) (wNil))) (wC (.bool true)))) (wOrT (wT (wOp fNe kEq (wCall0 sp_parse (wCons (wVar 7) (wNil))) (wVar 2))) (wOrT (wT (wOp fNe kEq (wBlt fLen kLen (wCons (wVar 7) (wNil))) (wCall0 sp_shortest_length (wCons (wVar 2) (wNil))))) (wT (wOp fNe kEq (wCall0 sp_items (wCons (wVar 7) (wNil))) (wVar 6)))))) (wRet (wC (.bool false))) (wNext)) w_law_10)
def w_law_6 : WS DrawSt :=
  wSeq (wWhile (wT (wOp fNe kEq (wOwn 5) (wDisp .list (wNil)))) (wSeq (wAppend 6 (wPickO spd_pick 1 5)) (wRemove 5 (wOp fIx kIx (wOwn 6) (wNeg (wC (.int 1))))))) (wFrz 6 w_law_8)
def w_law : WS DrawSt :=
  wSeq (wSet 1 (wCall spd_start (wCons (wVar 0) (wNil)))) (wSeq (wSet 2 (wCall spd_set (wCons (wVar 1) (wCons (wC (.int 8)) (wNil))))) (wSeq (wSet 3 (wCall0 sp_shortest_covers (wCons (wVar 2) (wNil)))) (wSeq (wSet 4 (wCall spd_pick (wCons (wVar 1) (wCons (wVar 3) (wNil))))) (wSeq (wNewCopy 5 (wVar 4)) (wSeq (wNew 6) w_law_6)))))
theorem lc_it {ρ : DS} {N : D → DrawSt → Prop} {θ : DrawSt} {its : List Itm} (ok : its.all itemOk = true) (hl : its.length ≤ 1000) (n : N (.py (.list ((its.map textOf).map .str))) θ) (hi : 8 < ρ.length := by simp) :
    lcGo (wgName 8) wYes (wCall0 sp_item_text (wCons (wVar 8) wNil)) ρ N ((its.map itD).map D.py) [] θ := by
  refine lcGo_map2 itD (fun q => .str (textOf q)) its (fun q hq T t => ?_) (le_line (by omega)) (by rw [List.map_map] at n; exact n)
  simp_arith! [wgName, wCall0, wCons, wVar, wNil, List.getElem?_set_self hi, sp_item_text, sz_itD, itemD_it (List.all_eq_true.mp ok q hq)]
  exact t
abbrev st11 (s ad : Addr) (a : List Int) (t : List Itm) (s5 s6 s7 s8 s9 s10 s11 s12 s13 : Sl) : DS := [.is (.rf s), .is (.rf ad), .is (.py (.list (a.map .int))), .is (.py (.list ((coversOf a).map lD))), .is (.py (.list (t.map itD))), s5, s6, s7, s8, s9, s10, s11, s12, s13]
theorem wh_order {s ad : Addr} {a : List Int} {t : List Itm} {R : EN DrawSt} {s7 s8 s9 s10 s11 s12 s13 : Sl} (tl : t.length ≤ 10) (hR : ∀ o : List Itm, o.Perm t → R.nx (st11 s ad a t (.own []) (.own (o.map itD)) s7 s8 s9 s10 s11 s12 s13) (.on ad)) : ∀ (n : Nat) (u o : List Itm), u.length ≤ n → (o ++ u).Perm t →
    whGo (wT (wOp fNe kEq (wOwn 5) (wDisp .list (wNil)))) (wSeq (wAppend 6 (wPickO spd_pick 1 5)) (wRemove 5 (wOp fIx kIx (wOwn 6) (wNeg (wC (.int 1)))))) R (n + 1) (st11 s ad a t (.own (u.map itD)) (.own (o.map itD)) s7 s8 s9 s10 s11 s12 s13) (.on ad)
  | n, [], o, _, p => by
    unfold whGo
    simp_arith! [st11, List.map_nil, List.isEmpty_nil]
    exact hR o (by simpa using p)
  | 0, _ :: _, _, h, _ => absurd h (by simp)
  | n + 1, x :: r, o, h, p => by
    have ul : o.length + (x :: r).length ≤ 10 := by rw [← List.length_append, p.length_eq]; exact tl
    unfold whGo
    have he : ((x :: r).map itD).isEmpty = false := rfl
    simp_arith! [st11, he, wPickO, wRemove, spd_pick]
    refine ⟨by simp, by simp only [List.length_map]; omega, fun d hd => ?_⟩
    obtain ⟨q, hq, rfl⟩ := List.mem_map.mp hd
    have hl := List.length_erase_of_mem hq
    refine ⟨⟨q, rfl⟩, ⟨ad, rfl⟩, Nat.lt_of_lt_of_le (show (List.map itD o).length < 11 by simp only [List.length_map, List.length_cons] at ul ⊢; omega) (le_line (by omega)), _, by rw [atI_last]; rfl, q, rfl, hq, ?_⟩
    have := wh_order (s := s) (ad := ad) (a := a) (R := R) (s7 := s7) (s8 := s8) (s9 := s9) (s10 := s10) (s11 := s11) (s12 := s12) (s13 := s13) tl hR n ((x :: r).erase q) (o ++ [q]) (by rw [hl]; simp only [List.length_cons] at h ⊢; omega) (by
      rw [List.append_assoc]
      exact (List.Perm.append_left o (List.perm_cons_erase hq).symm).trans p)
    rw [List.map_append] at this
    exact this

theorem k11_18 {N : D → DrawSt → Prop} {Nx : EK → DrawSt → Prop} {s ad : Addr} {a : List Int} {t o : List Itm} {s5 s8 s9 s10 s11 s12 s13 : Sl} (n : N (.py (.bool true)) (.on ad)) (ha : a ∈ subs ten) (na : a ≠ []) (ht : t ∈ coversOf a) (O : Ord a t o) :
    w_law_18 (bodyEN N Nx) (st11 s ad a t s5 (.is (.py (.list (o.map itD)))) (.is (.py (.str (joinI o)))) s8 s9 s10 s11 s12 s13) (.on ad) := by
  have sa := setD_ints ha na
  have fa := fine_subs ha
  have c63 := covers_63 ha
  obtain ⟨t0, ts, hc⟩ : ∃ t0 ts, coversOf a = t0 :: ts := by
    cases h : coversOf a with
    | nil => exact absurd h (covers_ne ha)
    | cons x y => exact ⟨x, y, rfl⟩
  have T0 := (tt_cover ha na (t := t0) (by rw [hc]; exact List.mem_cons_self)).1
  have hf : firstOf a = joinI t0 := by
    unfold firstOf
    rw [hc]
    rfl
  have t0kj := T0.t.kj
  have a0 : atI ((coversOf a).map lD) 0 = some (lD t0) := by
    rw [hc]
    exact atI_zero _ _
  simp_arith! [w_law_18, st11, sp_first_shortest, sp_fewest_items, sa, fa, hf, a0, lD]
  refine lc_it T0.all (by have := T0.len; omega) ?_
  simp_arith! [t0kj, join_fold, T0.t.sh]
  refine lcGo_map2 lD (fun u => .int (u.length : Nat)) (coversOf a) (fun u hu T t' => ?_) (le_line (by omega)) ?_
  · simp_arith! [lD, List.length_map]
    exact t'
  have ei : intsOf ((coversOf a).map fun u => PyData.int (u.length : Nat)) = some ((coversOf a).map fun u => ((u.length : Nat) : Int)) := by
    have := intsOf_map ((coversOf a).map fun u => ((u.length : Nat) : Int))
    rw [List.map_map] at this
    exact this
  have ne : ((coversOf a).map fun u => ((u.length : Nat) : Int)) ≠ [] := by rw [hc]; simp
  have d1 : decide (fewI a ≤ minI ((coversOf a).map fun u => ((u.length : Nat) : Int))) = true := decide_eq_true (by
    obtain ⟨x, hx, e⟩ : ∃ x ∈ (coversOf a).map (fun u => ((u.length : Nat) : Int)), minI ((coversOf a).map fun u => ((u.length : Nat) : Int)) = x := ⟨_, min_mem ne, rfl⟩
    rw [e]
    obtain ⟨u, hu, rfl⟩ := List.mem_map.mp hx
    exact few_len (tt_cover ha na hu).1)
  have ne2 : ((coversOf a).map fun u => PyData.int (u.length : Nat)) ≠ [] := by rw [hc]; simp
  simp_arith! [ei, Option.map_some, d1, ne2]
  exact ⟨ne2, n⟩
theorem sum_map (u : List Itm) : (u.map cstOf).sum = sumI cstOf u := by
  induction u with
  | nil => rfl
  | cons q u ih => rw [List.map_cons, List.sum_cons, ih]; rfl
theorem rep_flat {d : PyData} : ∀ n : Nat, (List.replicate n [d]).flatten = List.replicate n d
  | 0 => rfl
  | n + 1 => by
    rw [List.replicate_succ, List.flatten_cons, rep_flat n]
    rfl
theorem covers_sorted {a : List Int} (na : a ≠ []) : sortB ltC (coversOf a) = coversOf a ∧ (coversOf a).Nodup := by
  obtain ⟨x, r, rfl⟩ : ∃ x r, a = x :: r := by
    cases a with
    | nil => exact absurd rfl na
    | cons x r => exact ⟨x, r, rfl⟩
  have e : coversOf (x :: r) = sortC ((weigh (insideOf (x :: r))).flatMap (covG (weigh (insideOf (x :: r))) x r)) := covA_cons _ _ _
  rw [e]
  exact ⟨srt_uniq swo_ltC (fun _ _ => ltC_eq) (sortB_perm _) (sortB_srtd swo_ltC _) (sortB_srtd swo_ltC _), sortC_nodup _⟩
theorem k11_17 {N : D → DrawSt → Prop} {Nx : EK → DrawSt → Prop} {s ad : Addr} {a : List Int} {t o : List Itm} {s5 s8 s9 s10 s11 s12 s13 : Sl} (n : N (.py (.bool true)) (.on ad)) (ha : a ∈ subs ten) (na : a ≠ []) (ht : t ∈ coversOf a) (O : Ord a t o) :
    w_law_17 (bodyEN N Nx) (st11 s ad a t s5 (.is (.py (.list (o.map itD)))) (.is (.py (.str (joinI o)))) s8 s9 s10 s11 s12 s13) (.on ad) := by
  have sa := setD_ints ha na
  have fa := fine_subs ha
  have la := subs_len ha
  have tl := covers_len ha ht
  have ol := O.p.length_eq
  simp_arith! [w_law_17, st11, List.length_map]
  by_cases h1 : (t.length : Int) > 1
  · rw [if_pos (decide_eq_true h1)]
    simp_arith! [spd_draw, sp_without_item, O.T.t.it, O.T.t.tf]
    refine ⟨by omega, by omega, fun v v0 v1 => ?_⟩
    have i1 : isIntD 0 ((o.length : Int) - 1) (.int v) = true := by
      show (decide (0 ≤ v) && decide (v ≤ (o.length : Int) - 1)) = true
      rw [decide_eq_true v0, decide_eq_true (by omega)]
      rfl
    have o1 : ¬ o.length = 1 := by omega
    have vl : v.toNat < o.length := by omega
    have cne : cutI o v.toNat ≠ [] := fun e => by
      have h := congrArg List.length e
      unfold cutI at h
      rw [List.length_append, List.length_take, List.length_drop, List.length_nil] at h
      omega
    have C : TT (setOf (cutI o v.toNat)) (cutI o v.toNat) := tt_of (all_of O.T.all fun q hq => cutI_mem hq) cne rfl (by have := (cutI_sub o v.toNat).length_le; omega)
    have hne : decide (setOf (cutI o v.toNat) = a) = false := decide_eq_false fun e => by
      have h := idle_none (short_need O.T O.l) vl
      have : needP o v.toNat = true := needP_iff.mpr ⟨cne, by rw [e, O.T.st]⟩
      rw [h] at this
      cases this
    have hc : ((setOf (cutI o v.toNat)).all fun k => decide (k ∈ a)) = true := List.all_eq_true.mpr fun k hk => decide_eq_true (by
      obtain ⟨q, hq, h⟩ := mem_setOf.mp hk
      rw [← O.T.st]
      exact mem_setOf.mpr ⟨q, cutI_mem hq, h⟩)
    refine ⟨by omega, ?_⟩
    rw [if_pos i1, if_neg o1]
    simp_arith! [sp_parse, sp_contains, C.t.it, C.t.tf, C.t.l4, sa, fa, hne, hc]
    exact k11_18 n ha na ht O
  · rw [if_neg (by simpa using h1)]
    exact k11_18 n ha na ht O
theorem k11_15 {N : D → DrawSt → Prop} {Nx : EK → DrawSt → Prop} {s ad : Addr} {a : List Int} {t o : List Itm} {s5 s8 s9 s10 s11 s12 s13 : Sl} (n : N (.py (.bool true)) (.on ad)) (ha : a ∈ subs ten) (na : a ≠ []) (ht : t ∈ coversOf a) (O : Ord a t o) :
    w_law_15 (bodyEN N Nx) (st11 s ad a t s5 (.is (.py (.list (o.map itD)))) (.is (.py (.str (joinI o)))) s8 s9 s10 s11 s12 s13) (.on ad) := by
  have sa := setD_ints ha na
  have fa := fine_subs ha
  have c63 := covers_63 ha
  simp_arith! [w_law_15, st11]
  refine lcGo_map2 lD (fun u => .int (shortI a + 1)) (coversOf a) (fun u hu T t' => ?_) (le_line (by omega)) ?_
  · have U := tt_cover ha na hu
    simp_arith! [lD]
    refine lcGo_map2 itD (fun q => .int (cstOf q)) u (fun q hq T2 t2 => ?_) (le_line (by have := U.1.len; omega)) ?_
    · have ok := List.all_eq_true.mp U.1.all q hq
      have ts := (item_texts q (item_mem.mp ok)).2.1
      have ec : (((textOf q).length : Nat) : Int) + 1 = cstOf q := rfl
      simp_arith! [sp_item_text, sz_itD, itemD_it ok, ec]
      exact ⟨le_line (by omega), t2⟩
    · have ei : intsOf (u.map fun q => PyData.int (cstOf q)) = some (u.map cstOf) := by
        have := intsOf_map (u.map cstOf)
        rw [List.map_map] at this
        exact this
      have es : (u.map cstOf).sum = shortI a + 1 := by
        have h := U.2
        rw [joinI_cost U.1.ne] at h
        rw [sum_map]
        omega
      simp_arith! [ei, es, Option.map_some]
      exact t'
  · have e1 : ((coversOf a).map fun _ => PyData.int (shortI a + 1)) = (List.replicate (coversOf a).length (shortI a + 1)).map .int := by
      rw [List.map_const', List.map_replicate]
    have e2 : (List.replicate ((coversOf a).length : Int).toNat [PyData.int (shortI a + 1)]).flatten = (List.replicate (coversOf a).length (shortI a + 1)).map .int := by
      rw [rep_flat, List.map_replicate]
      rfl
    simp_arith! [e1, sp_shortest_length, sa, fa, List.length_map, e2]
    exact ⟨by decide, by omega, by omega, le_line' (by omega), k11_17 n ha na ht O⟩
theorem k11_14 {N : D → DrawSt → Prop} {Nx : EK → DrawSt → Prop} {s ad : Addr} {a : List Int} {t o : List Itm} {s5 s8 s9 s10 s11 s12 s13 : Sl} (n : N (.py (.bool true)) (.on ad)) (ha : a ∈ subs ten) (na : a ≠ []) (ht : t ∈ coversOf a) (O : Ord a t o) :
    w_law_14 (bodyEN N Nx) (st11 s ad a t s5 (.is (.py (.list (o.map itD)))) (.is (.py (.str (joinI o)))) s8 s9 s10 s11 s12 s13) (.on ad) := by
  have sa := setD_ints ha na
  have fa := fine_subs ha
  have c63 := covers_63 ha
  obtain ⟨cs, cn⟩ := covers_sorted na
  have d1 : decide (countOf a < ((coversOf a).length : Int)) = false := decide_eq_false (by have := count_ge ha; omega)
  have shc : SeqAt.shaped (.list ((coversOf a).map lD)) = true := (shp_map (k := 2) fun t _ => shp_map (k := 1) fun q _ => shp_itD q).sh
  have eqc : PyData.eqv (.list ((coversOf a).map lD)) (.list ((coversOf a).map lD)) = true := shp_self (k := 3) (shp_map (k := 2) fun t _ => shp_map (k := 1) fun q _ => shp_itD q)
  simp_arith! [w_law_14, st11, sp_count_shortest, sa, fa, List.length_map, d1, wSortLL, wLenNk]
  refine ⟨coversOf a, rfl, ?_⟩
  simp_arith! [cs, shc, eqc]
  refine lcGo_map2 lD covD (coversOf a) (fun u hu T t' => ?_) (le_line (by omega)) ?_
  · simp_arith! [lD]
    exact t'
  · refine ⟨coversOf a, rfl, by omega, cn, ?_⟩
    simp_arith! [and_true]
    exact k11_15 n ha na ht O
theorem k11_12 {N : D → DrawSt → Prop} {Nx : EK → DrawSt → Prop} {s ad : Addr} {a : List Int} {t o : List Itm} {s5 s8 s9 s10 s11 s12 s13 : Sl} (n : N (.py (.bool true)) (.on ad)) (ha : a ∈ subs ten) (na : a ≠ []) (ht : t ∈ coversOf a) (O : Ord a t o) :
    w_law_12 (bodyEN N Nx) (st11 s ad a t s5 (.is (.py (.list (o.map itD)))) (.is (.py (.str (joinI o)))) s8 s9 s10 s11 s12 s13) (.on ad) := by
  have sa := setD_ints ha na
  have fa := fine_subs ha
  have la := subs_len ha
  have tl := covers_len ha ht
  have ol := O.p.length_eq
  have ins := inside_len a
  have la1 : (a.length ≤ 1000) = True := eq_true (by omega)
  simp_arith! [w_law_12, st11, sp__law_inside, la1, spd_pick]
  refine ⟨?_, by simp only [List.length_map]; omega, fun d hd => ?_⟩
  · obtain ⟨x, r, rfl⟩ : ∃ x r, a = x :: r := by
      cases a with
      | nil => exact absurd rfl na
      | cons x r => exact ⟨x, r, rfl⟩
    have := (one_inside ha (k := x) List.mem_cons_self).1
    intro e
    rw [List.map_eq_nil_iff] at e
    rw [e] at this
    cases this
  · obtain ⟨q, hq, rfl⟩ := List.mem_map.mp hd
    have qi := inside_iff.mp hq
    have TP : TT a (o ++ [q]) := by
      refine tt_of (by rw [List.all_append, O.T.all]; simp [qi.1]) (by simp) ?_ (by rw [List.length_append, List.length_singleton]; omega)
      rw [← O.T.st]
      refine set_ext (setOf_subs _) (setOf_subs _) fun k => ?_
      simp only [mem_setOf, List.mem_append, List.mem_singleton]
      constructor
      · rintro ⟨p, hp | rfl, hk⟩
        · exact ⟨p, hp, hk⟩
        · have := qi.2 k hk
          rw [← O.T.st] at this
          exact mem_setOf.mp this
      · rintro ⟨p, hp, hk⟩
        exact ⟨p, .inl hp, hk⟩
    have eP : (joinI o ++ "," : Str) ++ textOf q = joinI (o ++ [q]) := (joinI_snoc O.T.ne q).symm
    have lP : ((joinI (o ++ [q])).length : Int) = ((joinI o).length : Int) + 1 + ((textOf q).length : Int) := by
      rw [← eP, Str.length_append, Str.length_append, comma_len]
      omega
    have lo := O.l
    have d5 : decide (((joinI (o ++ [q])).length : Int) - shortI a = ((joinI (o ++ [q])).length : Int) - ((joinI o).length : Int)) = true := decide_eq_true (by omega)
    have d6 : decide (((joinI (o ++ [q])).length : Int) = shortI a) = false := decide_eq_false (by omega)
    have l1 : ((joinI (o ++ [q])).length ≤ sizeLine) = True := eq_true (le_line (TP.t.tf).2)
    have l2 : ((joinI o).length ≤ sizeLine) = True := eq_true (le_line (O.T.t.tf).2)
    simp_arith! [sp_with_item, O.T.t.it, O.T.t.tf, sz_itD, itemD_it qi.1]
    simp_arith! [eP, sp_is_shortest, sp_parse, sp_shorter_by, TP.t.it, TP.t.tf, TP.t.l4, TP.st, l1, l2, d5, d6]
    exact k11_14 n ha na ht O
theorem num_subs0 (q : Itm) : numbersOf q ∈ subs ten := filter_subs _ _
theorem k11_11 {N : D → DrawSt → Prop} {Nx : EK → DrawSt → Prop} {s ad : Addr} {a : List Int} {t o : List Itm} {s5 s8 s9 s10 s11 s12 s13 : Sl} (n : N (.py (.bool true)) (.on ad)) (ha : a ∈ subs ten) (na : a ≠ []) (ht : t ∈ coversOf a) (O : Ord a t o) :
    w_law_11 (bodyEN N Nx) (st11 s ad a t s5 (.is (.py (.list (o.map itD)))) (.is (.py (.str (joinI o)))) s8 s9 s10 s11 s12 s13) (.on ad) := by
  have sa := setD_ints ha na
  have fa := fine_subs ha
  have tin := (mem_covers.mp ht).2.1
  simp_arith! [w_law_11, st11]
  refine forGo_inv2 itD (fun (ts : List Itm) (ρ : DS) (θ : DrawSt) => ∃ (zs : List Itm) (s8 s13 : Sl), t = zs ++ ts ∧ θ = .on ad ∧ ρ = st11 s ad a t s5 (.is (.py (.list (o.map itD)))) (.is (.py (.str (joinI o)))) s8 s9 s10 s11 s12 s13)
    (fun q ts ρ θ h R hR => ?_) (fun ρ θ h => ?_) _ _ _ ⟨[], s8, s13, rfl, rfl, rfl⟩
  · obtain ⟨zs, s8, s13, ee, rfl, rfl⟩ := h
    have hq := inside_iff.mp (tin q (by rw [ee]; simp))
    have dq : decide (q ∈ insideOf a) = true := decide_eq_true (inside_iff.mpr hq)
    have nl := subs_len (num_subs0 q)
    simp_arith! [st11, sp_items_within, sp_item_numbers, sa, fa, any_its, dq, sz_itD, itemD_it hq.1]
    refine lcGo_fm2 PyData.int (fun k => !decide (k ∈ a)) PyData.int _ (fun k hk T F t => ?_) (le_line (by omega)) ?_
    · simp_arith! [any_ints]
      exact t
    · have fe : ((numbersOf q).filter fun k => !decide (k ∈ a)) = [] := List.filter_eq_nil_iff.mpr fun k hk => by simp [hq.2 k hk]
      simp_arith! [fe, List.map_nil, List.isEmpty_nil]
      exact hR _ _ ⟨zs ++ [q], _, _, by rw [ee]; simp, rfl, rfl⟩
  · obtain ⟨zs, s8, s13, ee, rfl, rfl⟩ := h
    exact k11_12 n ha na ht O
theorem k11_8 {N : D → DrawSt → Prop} {Nx : EK → DrawSt → Prop} {s ad : Addr} {a : List Int} {t o : List Itm} {s5 s7 s8 s9 s10 s11 s12 s13 : Sl} (n : N (.py (.bool true)) (.on ad)) (ha : a ∈ subs ten) (na : a ≠ []) (ht : t ∈ coversOf a) (O : Ord a t o) :
    w_law_8 (bodyEN N Nx) (st11 s ad a t s5 (.is (.py (.list (o.map itD)))) s7 s8 s9 s10 s11 s12 s13) (.on ad) := by
  have sa := setD_ints ha na
  have fa := fine_subs ha
  have tl := covers_len ha ht
  have ol := O.p.length_eq
  simp_arith! [w_law_8, st11]
  refine lc_it O.T.all (by omega) ?_
  have okj := O.T.t.kj
  have l2 : ((joinI o).length ≤ sizeLine) = True := eq_true (le_line (O.T.t.tf).2)
  have d1 : decide (((joinI o).length : Int) = shortI a) = true := decide_eq_true O.l
  have pr : prunedOf o = o := pruned_stop (short_need O.T O.l)
  obtain ⟨t0, ts, hc⟩ : ∃ t0 ts, coversOf a = t0 :: ts := by
    cases h : coversOf a with
    | nil => exact absurd h (covers_ne ha)
    | cons x y => exact ⟨x, y, rfl⟩
  have T0 := (tt_cover ha na (t := t0) (by rw [hc]; exact List.mem_cons_self)).1
  have hf : firstOf a = joinI t0 := by
    unfold firstOf
    rw [hc]
    rfl
  have so : sortB ltItm o = t := srt_uniq swo_ltItm (fun _ _ => ltItm_eq) ((sortB_perm _).trans O.p) (sortB_srtd swo_ltItm _) (mem_covers.mp ht).1
  simp_arith! [okj, join_fold, sp_is_shortest, sp_parse, sp_shortest_length, sp_items, O.T.t.it, O.T.t.tf, O.T.t.l4, O.T.t.sh, O.T.st, sa, fa, l2, d1]
  simp_arith! [w_law_10, sp_pruned, sp_mean_same, sp_first_shortest, sp_items, O.T.t.it, O.T.t.tf, O.T.t.l4, O.T.t.sh, O.T.st, sa, fa, hf, pr, T0.t.it, T0.t.tf, T0.t.l4, T0.st, e_sorted_it, so]
  exact k11_11 n ha na ht O
theorem law_k11 : ∀ ds θ N Nx, spd_law ds θ N Nx → w_law (bodyEN N Nx) (startD 14 ds) θ := by
  rintro ds θ N Nx ⟨s, rfl, rfl, n⟩
  simp_arith! [w_law, spd_start, spd_set]
  refine fun ad => ⟨by decide, by decide, fun a ha0 na => ?_⟩
  obtain ⟨ha, _⟩ := upTo_ten (by omega) (by omega) ha0
  have sa := setD_ints ha na
  have fa := fine_subs ha
  have c63 := covers_63 ha
  simp_arith! [sp_shortest_covers, spd_pick, wNewCopy, sa, fa]
  refine ⟨by simpa using covers_ne ha, by simp only [List.length_map]; omega, fun d hd => ?_⟩
  obtain ⟨t, ht, rfl⟩ := List.mem_map.mp hd
  have tl := covers_len ha ht
  simp_arith! [w_law_6, wWhile, D.py.injEq, PyData.list.injEq]
  refine ⟨t.length + 1, ?_⟩
  refine wh_order tl (fun o p => ?_) t.length t [] (Nat.le_refl _) (List.Perm.refl _)
  simp_arith! [st11]
  exact k11_8 (n ad) ha na ht (ord_of ha na ht p)
end RT
end
section
set_option Elab.async false
set_option linter.all false
set_option maxRecDepth 100000
set_option maxHeartbeats 0
namespace RT
open PySem PySem.Spec PyProof.Rows L2
def top (i : Nat) : Stmt := PySem.Challenge.pw_rangetexts_k11_whole_orders.main.body.getD i (.Pass ⟨0, 0, 0, 0⟩)
abbrev FnP (K : PySem.W.Frag) (x : Str) (st : Stmt) (f : Addr) (fd : FuncData) : Prop := FunD K x x (defArgs st) (defBody st) (defScope st) [] [] f fd
structure Fx (C : EK → Addr) (K : PySem.W.Frag) (mg : Str → Option Value) : Prop where
  n_ValueError : mg "ValueError" = none
  n_all : mg "all" = none
  n_bool : mg "bool" = none
  n_int : mg "int" = none
  n_isinstance : mg "isinstance" = none
  n_len : mg "len" = none
  n_list : mg "list" = none
  n_min : mg "min" = none
  n_range : mg "range" = none
  n_set : mg "set" = none
  n_sorted : mg "sorted" = none
  n_str : mg "str" = none
  n_sum : mg "sum" = none
  n_tuple : mg "tuple" = none
  n_zip : mg "zip" = none
  most : ∃ t, mg "MOST" = some (.int 10 t)
  digits : ∃ t, mg "DIGITS" = some (.str "0123456789" t)
  x_set : ExcOk K mg "BadSet" (C .set)
  x_item : ExcOk K mg "BadItem" (C .item)
  x_number : ExcOk K mg "BadNumber" (C .number)
  x_text : ExcOk K mg "BadText" (C .text)
  x_none : ExcOk K mg "NotFound" (C .none)
structure Hx (C : EK → Addr) (K : PySem.W.Frag) (mg : Str → Option Value) : Prop where
  fx : Fx C K mg
  d_is_int : ∃ f fd, FnP K "is_int" (top 8) f fd ∧ mg "is_int" = some (.ref f)
  d_is_set : ∃ f fd, FnP K "is_set" (top 9) f fd ∧ mg "is_set" = some (.ref f)
  d_check_set : ∃ f fd, FnP K "check_set" (top 10) f fd ∧ mg "check_set" = some (.ref f)
  d_is_item : ∃ f fd, FnP K "is_item" (top 11) f fd ∧ mg "is_item" = some (.ref f)
  d_check_item : ∃ f fd, FnP K "check_item" (top 12) f fd ∧ mg "check_item" = some (.ref f)
  d_numbers_of : ∃ f fd, FnP K "numbers_of" (top 15) f fd ∧ mg "numbers_of" = some (.ref f)
  d_item_numbers : ∃ f fd, FnP K "item_numbers" (top 16) f fd ∧ mg "item_numbers" = some (.ref f)
  d_text_of : ∃ f fd, FnP K "text_of" (top 17) f fd ∧ mg "text_of" = some (.ref f)
  d_item_text : ∃ f fd, FnP K "item_text" (top 18) f fd ∧ mg "item_text" = some (.ref f)
  d_number_in : ∃ f fd, FnP K "number_in" (top 19) f fd ∧ mg "number_in" = some (.ref f)
  d_item_in : ∃ f fd, FnP K "item_in" (top 20) f fd ∧ mg "item_in" = some (.ref f)
  d_within_of : ∃ f fd, FnP K "within_of" (top 21) f fd ∧ mg "within_of" = some (.ref f)
  d_items_within : ∃ f fd, FnP K "items_within" (top 22) f fd ∧ mg "items_within" = some (.ref f)
  d_greatest_of : ∃ f fd, FnP K "greatest_of" (top 23) f fd ∧ mg "greatest_of" = some (.ref f)
  d_items_in : ∃ f fd, FnP K "items_in" (top 25) f fd ∧ mg "items_in" = some (.ref f)
  d_set_of : ∃ f fd, FnP K "set_of" (top 26) f fd ∧ mg "set_of" = some (.ref f)
  d_check_text : ∃ f fd, FnP K "check_text" (top 27) f fd ∧ mg "check_text" = some (.ref f)
  d_parse : ∃ f fd, FnP K "parse" (top 28) f fd ∧ mg "parse" = some (.ref f)
  d_items : ∃ f fd, FnP K "items" (top 29) f fd ∧ mg "items" = some (.ref f)
  d_mean_same : ∃ f fd, FnP K "mean_same" (top 30) f fd ∧ mg "mean_same" = some (.ref f)
  d_weighed : ∃ f fd, FnP K "weighed" (top 32) f fd ∧ mg "weighed" = some (.ref f)
  d_least_from : ∃ f fd, FnP K "least_from" (top 33) f fd ∧ mg "least_from" = some (.ref f)
  d_length_of : ∃ f fd, FnP K "length_of" (top 34) f fd ∧ mg "length_of" = some (.ref f)
  d_shortest_length : ∃ f fd, FnP K "shortest_length" (top 35) f fd ∧ mg "shortest_length" = some (.ref f)
  d_covers_from : ∃ f fd, FnP K "covers_from" (top 36) f fd ∧ mg "covers_from" = some (.ref f)
  d_covers_of : ∃ f fd, FnP K "covers_of" (top 37) f fd ∧ mg "covers_of" = some (.ref f)
  d_shortest_covers : ∃ f fd, FnP K "shortest_covers" (top 38) f fd ∧ mg "shortest_covers" = some (.ref f)
  d_count_shortest : ∃ f fd, FnP K "count_shortest" (top 39) f fd ∧ mg "count_shortest" = some (.ref f)
  d_first_shortest : ∃ f fd, FnP K "first_shortest" (top 40) f fd ∧ mg "first_shortest" = some (.ref f)
  d_is_shortest : ∃ f fd, FnP K "is_shortest" (top 41) f fd ∧ mg "is_shortest" = some (.ref f)
  d_fewest_from : ∃ f fd, FnP K "fewest_from" (top 42) f fd ∧ mg "fewest_from" = some (.ref f)
  d_fewest_items : ∃ f fd, FnP K "fewest_items" (top 43) f fd ∧ mg "fewest_items" = some (.ref f)
  d_shorter_by : ∃ f fd, FnP K "shorter_by" (top 44) f fd ∧ mg "shorter_by" = some (.ref f)
  d_contains : ∃ f fd, FnP K "contains" (top 46) f fd ∧ mg "contains" = some (.ref f)
  d_with_item : ∃ f fd, FnP K "with_item" (top 48) f fd ∧ mg "with_item" = some (.ref f)
  d_without_item : ∃ f fd, FnP K "without_item" (top 49) f fd ∧ mg "without_item" = some (.ref f)
  d_pruned : ∃ f fd, FnP K "pruned" (top 50) f fd ∧ mg "pruned" = some (.ref f)
  d__law_start : ∃ f fd, FnP K "_law_start" (top 52) f fd ∧ mg "_law_start" = some (.ref f)
  d__law_draw : ∃ f fd, FnP K "_law_draw" (top 53) f fd ∧ mg "_law_draw" = some (.ref f)
  d__law_pick : ∃ f fd, FnP K "_law_pick" (top 54) f fd ∧ mg "_law_pick" = some (.ref f)
  d__law_set : ∃ f fd, FnP K "_law_set" (top 55) f fd ∧ mg "_law_set" = some (.ref f)
  d__law_items : ∃ f fd, FnP K "_law_items" (top 56) f fd ∧ mg "_law_items" = some (.ref f)
  d__law_numbers : ∃ f fd, FnP K "_law_numbers" (top 57) f fd ∧ mg "_law_numbers" = some (.ref f)
  d__law_inside : ∃ f fd, FnP K "_law_inside" (top 58) f fd ∧ mg "_law_inside" = some (.ref f)
  d_law : ∃ f fd, FnP K "law" (top 59) f fd ∧ mg "law" = some (.ref f)
section
variable {P : Program} {w : World} {K : PySem.W.Frag} {mg : Str → Option Value} {base : Heap} {C : EK → Addr}
set_option hygiene false in
local macro_rules | `(tactic| trivial) => `(tactic| (first | (obtain ⟨_, rfl, _⟩ := h; rfl) | (obtain ⟨_, _, rfl, _⟩ := h; rfl) | (obtain ⟨_, _, _, rfl, _⟩ := h; rfl) | (obtain ⟨_, _, _, _, rfl, _⟩ := h; rfl) | (obtain ⟨_, _, _, _, _, rfl, _⟩ := h; rfl) | (obtain ⟨_, _, _, _, _, _, rfl, _⟩ := h; rfl) | (obtain ⟨rfl, _, rfl, _⟩ := h; rfl) | (obtain ⟨rfl, _, _, rfl, _⟩ := h; rfl) | (obtain ⟨rfl, _⟩ := h; rfl)))
theorem sc_is_int : FnScope ["value", "low", "high"] ["value", "low", "high"] (defScope (top 8)) := ⟨rfl, rfl, rfl, by decide +kernel, rfl, by decide +kernel, by decide +kernel⟩
theorem der_is_int (F : Fx C K mg) (f : Addr) (cdv : Value) (A : Around) (outer : List Env) (s : Shared) (H : Hp) (E : XK) (hr : Room 0 (A.deeper (envOfC "is_int" (defScope (top 8)) s.heap.objs.size f cdv))) :
    SXs (cxOf (L2.CX P w) P w K mg base ["value", "low", "high"] "is_int" (defScope (top 8)) f cdv A outer s H E) (V0 C) (WxE E) (defBody (top 8)) w_is_int := by
  have tk : Takes (cxOf (L2.CX P w) P w K mg base ["value", "low", "high"] "is_int" (defScope (top 8)) f cdv A outer s H E) (WxE E) := takes_of rfl rfl rfl rfl
  have po := passes_of (X := cxOf (L2.CX P w) P w K mg base ["value", "low", "high"] "is_int" (defScope (top 8)) f cdv A outer s H E) rfl
  have nd := sc_is_int.nd
  exact (sxs_one (sx_ret (ex_and (ex_isi "int" F.n_isinstance F.n_int rfl rfl (ex_var 0)) (ex_and (ex_not (ex_isi "bool" F.n_isinstance F.n_bool rfl rfl (ex_var 0))) (ex_one (ex_chain o_le o_le (ex_var 1) (ex_var 0) (ex_var 2)))))))
theorem len_is_int : ∀ ds θ N Nx, (sp_is_int.up : Spec Unit) ds θ N Nx → ds.length = 3 := by
  intro ds θ N Nx h
  trivial
theorem cal_is_int (X : Hx C K mg) : CalD P w K mg base 1 "is_int" (V0 C) sp_is_int.up := by
  obtain ⟨f, fd, F, hm⟩ := X.d_is_int
  exact cal_of F (def_ok F sc_is_int len_is_int law_is_int fun cdv A outer s H E hr => der_is_int X.fx f cdv A outer s H E hr) hm (F.bindsN fun _ _ _ _ _ _ us hl => match us, hl with | [_, _, _], _ => rfl)
theorem sc_numbers_of : FnScope ["item"] ["item"] (defScope (top 15)) := ⟨rfl, rfl, rfl, by decide +kernel, rfl, by decide +kernel, by decide +kernel⟩
theorem der_numbers_of (F : Fx C K mg) (f : Addr) (cdv : Value) (A : Around) (outer : List Env) (s : Shared) (H : Hp) (E : XK) (hr : Room 0 (A.deeper (envOfC "numbers_of" (defScope (top 15)) s.heap.objs.size f cdv))) :
    SXs (cxOf (L2.CX P w) P w K mg base ["item"] "numbers_of" (defScope (top 15)) f cdv A outer s H E) (V0 C) (WxE E) (defBody (top 15)) w_numbers_of := by
  have tk : Takes (cxOf (L2.CX P w) P w K mg base ["item"] "numbers_of" (defScope (top 15)) f cdv A outer s H E) (WxE E) := takes_of rfl rfl rfl rfl
  have po := passes_of (X := cxOf (L2.CX P w) P w K mg base ["item"] "numbers_of" (defScope (top 15)) f cdv A outer s H E) rfl
  have nd := sc_numbers_of.nd
  exact (sxs_one (sx_ret (ex_lr rfl F.n_list F.n_range rfl rfl (ax_cons (EX.rd (ex_ix (ex_var 0) ex_int)) (ax_cons (EX.rd (ex_op o_add (ex_ix (ex_var 0) ex_int) ex_int)) (ax_cons (EX.rd (ex_ix (ex_var 0) ex_int)) ax_nil))))))
theorem len_numbers_of : ∀ ds θ N Nx, (sp_numbers_of.up : Spec Unit) ds θ N Nx → ds.length = 1 := by
  intro ds θ N Nx h
  trivial
theorem cal_numbers_of (X : Hx C K mg) : CalD P w K mg base 1 "numbers_of" (V0 C) sp_numbers_of.up := by
  obtain ⟨f, fd, F, hm⟩ := X.d_numbers_of
  exact cal_of F (def_ok F sc_numbers_of len_numbers_of law_numbers_of fun cdv A outer s H E hr => der_numbers_of X.fx f cdv A outer s H E hr) hm (F.bindsN fun _ _ _ _ _ _ us hl => match us, hl with | [_], _ => rfl)
theorem sc_text_of : FnScope ["item", "first", "last", "step"] ["item"] (defScope (top 17)) := ⟨rfl, rfl, rfl, by decide +kernel, rfl, by decide +kernel, by decide +kernel⟩
theorem der_text_of (F : Fx C K mg) (f : Addr) (cdv : Value) (A : Around) (outer : List Env) (s : Shared) (H : Hp) (E : XK) (hr : Room 0 (A.deeper (envOfC "text_of" (defScope (top 17)) s.heap.objs.size f cdv))) :
    SXs (cxOf (L2.CX P w) P w K mg base ["item", "first", "last", "step"] "text_of" (defScope (top 17)) f cdv A outer s H E) (V0 C) (WxE E) (defBody (top 17)) w_text_of := by
  have tk : Takes (cxOf (L2.CX P w) P w K mg base ["item", "first", "last", "step"] "text_of" (defScope (top 17)) f cdv A outer s H E) (WxE E) := takes_of rfl rfl rfl rfl
  have po := passes_of (X := cxOf (L2.CX P w) P w K mg base ["item", "first", "last", "step"] "text_of" (defScope (top 17)) f cdv A outer s H E) rfl
  have nd := sc_text_of.nd
  exact (sxs_cons (sx_unp (ex_var 0) (gx_tup rfl (gxs_cons 1 nd (gxs_cons 2 nd (gxs_cons 3 nd gxs_nil))))) (sxs_cons (sx_if (tx_cmp (o_eq hr.units) (ex_var 1) (ex_var 2)) (sxs_one (sx_ret (ex_ty b_str F.n_str rfl (ax_cons (EX.rd (ex_var 1)) ax_nil)))) sxs_nil) (sxs_one (sx_ret (ex_if (tx_cmp (o_eq hr.units) (ex_var 3) ex_int) (ex_joined (jx_cons (ex_fmt (ex_var 1)) (jx_cons ex_str (jx_cons (ex_fmt (ex_var 2)) jx_nil)))) (ex_joined (jx_cons (ex_fmt (ex_var 1)) (jx_cons ex_str (jx_cons (ex_fmt (ex_var 2)) (jx_cons ex_str (jx_cons (ex_fmt (ex_var 3)) jx_nil)))))))))))
theorem len_text_of : ∀ ds θ N Nx, (sp_text_of.up : Spec Unit) ds θ N Nx → ds.length = 1 := by
  intro ds θ N Nx h
  trivial
theorem cal_text_of (X : Hx C K mg) : CalD P w K mg base 1 "text_of" (V0 C) sp_text_of.up := by
  obtain ⟨f, fd, F, hm⟩ := X.d_text_of
  exact cal_of F (def_ok F sc_text_of len_text_of law_text_of fun cdv A outer s H E hr => der_text_of X.fx f cdv A outer s H E hr) hm (F.bindsN fun _ _ _ _ _ _ us hl => match us, hl with | [_], _ => rfl)
theorem sc_number_in : FnScope ["word", "sign"] ["word"] (defScope (top 19)) := ⟨rfl, rfl, rfl, by decide +kernel, rfl, by decide +kernel, by decide +kernel⟩
theorem der_number_in (F : Fx C K mg) (f : Addr) (cdv : Value) (A : Around) (outer : List Env) (s : Shared) (H : Hp) (E : XK) (hr : Room 0 (A.deeper (envOfC "number_in" (defScope (top 19)) s.heap.objs.size f cdv))) :
    SXs (cxOf (L2.CX P w) P w K mg base ["word", "sign"] "number_in" (defScope (top 19)) f cdv A outer s H E) (V0 C) (WxE E) (defBody (top 19)) w_number_in := by
  have tk : Takes (cxOf (L2.CX P w) P w K mg base ["word", "sign"] "number_in" (defScope (top 19)) f cdv A outer s H E) (WxE E) := takes_of rfl rfl rfl rfl
  have po := passes_of (X := cxOf (L2.CX P w) P w K mg base ["word", "sign"] "number_in" (defScope (top 19)) f cdv A outer s H E) rfl
  have nd := sc_number_in.nd
  exact (sxs_cons (sx_if (TW.tx (tw_or (tx_not (tx_chain o_le o_le ex_int (ex_blt b_len F.n_len rfl (ax_cons (EX.rd (ex_var 0)) ax_nil)) ex_int)) (tw_or (tx_not (tx_val (ex_blt (b_all rfl) F.n_all rfl (ax_cons (EX.rd (ex_lc rfl nd [("sign", 1)] (ix_str (ex_var 0)) (blkOk_by (by kernel_rfl)) (fun _ _ _ _ _ => (gx_name 1 nd)) (fun _ _ _ _ _ => txs_nil) (fun _ _ _ _ _ => (ex_cmp (o_in hr.u65) (ex_var 1) (ex_gstr rfl F.digits))))) ax_nil)))) (tw_or1 (tx_cmp (o_ne hr.units) (ex_ty b_str F.n_str rfl (ax_cons (EX.rd (ex_ty b_int F.n_int rfl (ax_cons (EX.rd (ex_var 0)) ax_nil))) ax_nil)) (ex_var 0)))))) (sxs_one (sx_ret ex_int)) sxs_nil) (sxs_one (sx_ret (ex_if (tx_cmp o_le (ex_ty b_int F.n_int rfl (ax_cons (EX.rd (ex_var 0)) ax_nil)) (ex_gint rfl F.most)) (ex_ty b_int F.n_int rfl (ax_cons (EX.rd (ex_var 0)) ax_nil)) ex_int))))
theorem len_number_in : ∀ ds θ N Nx, (sp_number_in.up : Spec Unit) ds θ N Nx → ds.length = 1 := by
  intro ds θ N Nx h
  trivial
theorem cal_number_in (X : Hx C K mg) : CalD P w K mg base 1 "number_in" (V0 C) sp_number_in.up := by
  obtain ⟨f, fd, F, hm⟩ := X.d_number_in
  exact cal_of F (def_ok F sc_number_in len_number_in law_number_in fun cdv A outer s H E hr => der_number_in X.fx f cdv A outer s H E hr) hm (F.bindsN fun _ _ _ _ _ _ us hl => match us, hl with | [_], _ => rfl)
theorem sc_within_of : FnScope ["numbers_there", "found", "first", "second", "last"] ["numbers_there"] (defScope (top 21)) := ⟨rfl, rfl, rfl, by decide +kernel, rfl, by decide +kernel, by decide +kernel⟩
theorem der_within_of (F : Fx C K mg) (f : Addr) (cdv : Value) (A : Around) (outer : List Env) (s : Shared) (H : Hp) (E : XK) (hr : Room 0 (A.deeper (envOfC "within_of" (defScope (top 21)) s.heap.objs.size f cdv))) :
    SXs (cxOf (L2.CX P w) P w K mg base ["numbers_there", "found", "first", "second", "last"] "within_of" (defScope (top 21)) f cdv A outer s H E) (V0 C) (WxE E) (defBody (top 21)) w_within_of := by
  have tk : Takes (cxOf (L2.CX P w) P w K mg base ["numbers_there", "found", "first", "second", "last"] "within_of" (defScope (top 21)) f cdv A outer s H E) (WxE E) := takes_of rfl rfl rfl rfl
  have po := passes_of (X := cxOf (L2.CX P w) P w K mg base ["numbers_there", "found", "first", "second", "last"] "within_of" (defScope (top 21)) f cdv A outer s H E) rfl
  have nd := sc_within_of.nd
  exact (sxs_cons (sx_new 1 nd) (sxs_cons (sx_for po rfl (ix_list (ex_var 0)) (gx_name 2 nd) (sxs_cons (sx_append 1 (ex_tup (ax_cons (ex_var 2) (ax_cons (ex_var 2) (ax_cons ex_int ax_nil))))) (sxs_one (sx_for po rfl (ix_list (ex_var 0)) (gx_name 3 nd) (sxs_one (sx_if (tx_cmp o_gt (ex_var 3) (ex_var 2)) (sxs_cons (sx_set 4 nd (ex_var 3)) (sxs_one (sx_while po (tx_cmp (o_in hr.u65) (ex_var 4) (ex_var 0)) (sxs_cons (sx_append 1 (ex_tup (ax_cons (ex_var 2) (ax_cons (ex_var 4) (ax_cons (ex_op o_sub (ex_var 3) (ex_var 2)) ax_nil))))) (sxs_one (sx_aug 4 nd o_iadd (ex_op o_sub (ex_var 3) (ex_var 2)))))))) sxs_nil)))))) (sxs_frz 1 (sxs_one (sx_ret (ex_blt b_sorted F.n_sorted rfl (ax_cons (EX.rd (ex_var 1)) ax_nil)))))))
theorem len_within_of : ∀ ds θ N Nx, (sp_within_of.up : Spec Unit) ds θ N Nx → ds.length = 1 := by
  intro ds θ N Nx h
  trivial
theorem cal_within_of (X : Hx C K mg) : CalD P w K mg base 1 "within_of" (V0 C) sp_within_of.up := by
  obtain ⟨f, fd, F, hm⟩ := X.d_within_of
  exact cal_of F (def_ok F sc_within_of len_within_of law_within_of fun cdv A outer s H E hr => der_within_of X.fx f cdv A outer s H E hr) hm (F.bindsN fun _ _ _ _ _ _ us hl => match us, hl with | [_], _ => rfl)
theorem sc__law_start : FnScope ["_law_script"] ["_law_script"] (defScope (top 52)) := ⟨rfl, rfl, rfl, by decide +kernel, rfl, by decide +kernel, by decide +kernel⟩
theorem cal__law_start (X : Hx C K mg) : CalD P w K mg base 1 "_law_start" (VD K C) spd_start := by
  obtain ⟨f, fd, F, hm⟩ := X.d__law_start
  have gl := X.fx.n_list
  refine cal_of F (start_ok rfl rfl F sc__law_start fun cdv A outer s H E hr => ?_) hm (F.bindsN fun _ _ _ _ _ _ us hl => match us, hl with | [_], _ => rfl)
  exact pss_one (ps_ret (pe_lst (pa_cons (pe_ifExp (pt_cmpR (op_neD hr.units) (pv 0) (pe_lst pa_nil) (nomark _)) (pe_callTy call_list_of rfl gl boot_list (pa_cons (pv 0) pa_nil)) (pe_lst (pa_cons pe_int pa_nil))) (pa_cons pe_int pa_nil))))
theorem sc__law_draw : FnScope ["_law_draws", "_law_limit", "_law_numbers_here", "_law_at", "_law_cell", "_law_mixed"] ["_law_draws", "_law_limit"] (defScope (top 53)) := ⟨rfl, rfl, rfl, by decide +kernel, rfl, by decide +kernel, by decide +kernel⟩
theorem cal__law_draw (X : Hx C K mg) : CalD P w K mg base 1 "_law_draw" (VD K C) spd_draw := by
  obtain ⟨f, fd, F, hm⟩ := X.d__law_draw
  have nd := sc__law_draw.nd
  have gl := X.fx.n_len
  refine cal_of F (draw_ok rfl rfl F sc__law_draw fun cdv A outer s H E hr => ?_) hm (F.bindsN fun _ _ _ _ _ _ us hl => match us, hl with | [_, _], _ => rfl)
  exact pss_cons (ps_set (i := 2) nd rfl (Or.inl rfl) (pe_ix L2.ix_list (pv 0) pe_int (fun _ _ => rfl)))
    (pss_cons (ps_asg (pe_op op_add (pe_ix L2.ix_list (pv 0) pe_int (fun _ _ => rfl)) pe_int) (pg_sub (pv 0) pe_int set_list))
    (pss_cons (ps_set (i := 3) nd rfl (Or.inl rfl) (pe_op op_mod (pe_ix L2.ix_list (pv 0) pe_int (fun _ _ => rfl)) (pe_callB call_len_seq rfl gl boot_len (pa_cons (pv 2) pa_nil))))
    (pss_cons (ps_set (i := 4) nd rfl (Or.inl rfl) (pe_ix L2.ix_list (pv 2) (pv 3) (fun _ _ => rfl)))
    (pss_cons (ps_if (pt_cmpR op_ge (pv 4) pe_int (nomark _)) (pss_cons (ps_asg (pe_op op_fdiv (pv 4) (pv 1)) (pg_sub (pv 2) (pv 3) set_list)) (pss_one (ps_ret (pe_op op_mod (pv 4) (pv 1))))) pss_nil)
    (pss_cons (ps_set (i := 5) nd rfl (Or.inl rfl) (pe_op op_mod (pe_op op_add (pv 4) (pe_op op_mul pe_int (pe_ix L2.ix_list (pv 0) pe_int (fun _ _ => rfl)))) pe_int))
    (pss_cons (ps_set (i := 5) nd rfl (Or.inl rfl) (pe_op op_mod (pe_op op_pow (pv 5) pe_int) pe_int))
    (pss_one (ps_ret (pe_op op_mod (pe_op op_fdiv (pe_op op_mod (pe_op op_add (pe_op op_mul (pe_op op_fdiv (pv 5) pe_int) pe_int) (pv 5)) pe_int) pe_int) (pv 1))))))))))
theorem sc__law_items : FnScope ["_law_found", "_law_first", "_law_last", "_law_by"] [] (defScope (top 56)) := ⟨rfl, rfl, rfl, by decide +kernel, rfl, by decide +kernel, by decide +kernel⟩
theorem der__law_items (F : Fx C K mg) (f : Addr) (cdv : Value) (A : Around) (outer : List Env) (s : Shared) (H : Hp) (E : XK) (hr : Room 0 (A.deeper (envOfC "_law_items" (defScope (top 56)) s.heap.objs.size f cdv))) :
    SXs (cxOf (L2.CX P w) P w K mg base ["_law_found", "_law_first", "_law_last", "_law_by"] "_law_items" (defScope (top 56)) f cdv A outer s H E) (V0 C) (WxE E) (defBody (top 56)) w__law_items := by
  have tk : Takes (cxOf (L2.CX P w) P w K mg base ["_law_found", "_law_first", "_law_last", "_law_by"] "_law_items" (defScope (top 56)) f cdv A outer s H E) (WxE E) := takes_of rfl rfl rfl rfl
  have po := passes_of (X := cxOf (L2.CX P w) P w K mg base ["_law_found", "_law_first", "_law_last", "_law_by"] "_law_items" (defScope (top 56)) f cdv A outer s H E) rfl
  have nd := sc__law_items.nd
  exact (sxs_cons (sx_new 0 nd) (sxs_cons (sx_for po rfl (ix_range2 F.n_range rfl (ax_cons (EX.rd ex_int) (ax_cons (EX.rd ex_int) ax_nil))) (gx_name 1 nd) (sxs_cons (sx_append 0 (ex_tup (ax_cons (ex_var 1) (ax_cons (ex_var 1) (ax_cons ex_int ax_nil))))) (sxs_one (sx_for po rfl (ix_range2 F.n_range rfl (ax_cons (EX.rd (ex_op o_add (ex_var 1) ex_int)) (ax_cons (EX.rd ex_int) ax_nil))) (gx_name 2 nd) (sxs_one (sx_ownCat 0 nd (ex_lc rfl nd [("_law_by", 3)] (ix_range2 F.n_range rfl (ax_cons (EX.rd ex_int) (ax_cons (EX.rd ex_int) ax_nil))) (blkOk_by (by kernel_rfl)) (fun _ _ _ _ _ => (gx_name 3 nd)) (fun _ _ _ _ _ => (txs_one (tx_cmp (o_eq hr.units) (ex_op o_mod (ex_op o_sub (ex_var 2) (ex_var 1)) (ex_var 3)) ex_int))) (fun _ _ _ _ _ => (ex_tup (ax_cons (ex_var 1) (ax_cons (ex_var 2) (ax_cons (ex_var 3) ax_nil)))))))))))) (sxs_frz 0 (sxs_one (sx_ret (ex_var 0))))))
theorem len__law_items : ∀ ds θ N Nx, (sp__law_items.up : Spec Unit) ds θ N Nx → ds.length = 0 := by
  intro ds θ N Nx h
  trivial
theorem cal__law_items (X : Hx C K mg) : CalD P w K mg base 1 "_law_items" (V0 C) sp__law_items.up := by
  obtain ⟨f, fd, F, hm⟩ := X.d__law_items
  exact cal_of F (def_ok F sc__law_items len__law_items law_itemsAll fun cdv A outer s H E hr => der__law_items X.fx f cdv A outer s H E hr) hm (F.bindsN fun _ _ _ _ _ _ us hl => match us, hl with | [], _ => rfl)
theorem sc__law_numbers : FnScope ["_law_item", "_law_number"] ["_law_item"] (defScope (top 57)) := ⟨rfl, rfl, rfl, by decide +kernel, rfl, by decide +kernel, by decide +kernel⟩
theorem der__law_numbers (F : Fx C K mg) (f : Addr) (cdv : Value) (A : Around) (outer : List Env) (s : Shared) (H : Hp) (E : XK) (hr : Room 0 (A.deeper (envOfC "_law_numbers" (defScope (top 57)) s.heap.objs.size f cdv))) :
    SXs (cxOf (L2.CX P w) P w K mg base ["_law_item", "_law_number"] "_law_numbers" (defScope (top 57)) f cdv A outer s H E) (V0 C) (WxE E) (defBody (top 57)) w__law_numbers := by
  have tk : Takes (cxOf (L2.CX P w) P w K mg base ["_law_item", "_law_number"] "_law_numbers" (defScope (top 57)) f cdv A outer s H E) (WxE E) := takes_of rfl rfl rfl rfl
  have po := passes_of (X := cxOf (L2.CX P w) P w K mg base ["_law_item", "_law_number"] "_law_numbers" (defScope (top 57)) f cdv A outer s H E) rfl
  have nd := sc__law_numbers.nd
  exact (sxs_one (sx_ret (ex_lc rfl nd [("_law_number", 1)] (ix_range2 F.n_range rfl (ax_cons (EX.rd (ex_ix (ex_var 0) ex_int)) (ax_cons (EX.rd (ex_op o_add (ex_ix (ex_var 0) ex_int) ex_int)) ax_nil))) (blkOk_by (by kernel_rfl)) (fun _ _ _ _ _ => (gx_name 1 nd)) (fun _ _ _ _ _ => (txs_one (tx_cmp (o_eq hr.units) (ex_op o_mod (ex_op o_sub (ex_var 1) (ex_ix (ex_var 0) ex_int)) (ex_ix (ex_var 0) ex_int)) ex_int))) (fun _ _ _ _ _ => (ex_var 1)))))
theorem len__law_numbers : ∀ ds θ N Nx, (sp__law_numbers.up : Spec Unit) ds θ N Nx → ds.length = 1 := by
  intro ds θ N Nx h
  trivial
theorem cal__law_numbers (X : Hx C K mg) : CalD P w K mg base 1 "_law_numbers" (V0 C) sp__law_numbers.up := by
  obtain ⟨f, fd, F, hm⟩ := X.d__law_numbers
  exact cal_of F (def_ok F sc__law_numbers len__law_numbers law_numbers fun cdv A outer s H E hr => der__law_numbers X.fx f cdv A outer s H E hr) hm (F.bindsN fun _ _ _ _ _ _ us hl => match us, hl with | [_], _ => rfl)
theorem sc_is_set : FnScope ["value", "a", "b", "one"] ["value"] (defScope (top 9)) := ⟨rfl, rfl, rfl, by decide +kernel, rfl, by decide +kernel, by decide +kernel⟩
theorem der_is_set (F : Fx C K mg) (c_is_int : CalD P w K mg base 1 "is_int" (V0 C) sp_is_int.up) (f : Addr) (cdv : Value) (A : Around) (outer : List Env) (s : Shared) (H : Hp) (E : XK) (hr : Room 1 (A.deeper (envOfC "is_set" (defScope (top 9)) s.heap.objs.size f cdv))) :
    SXs (cxOf (L2.CX P w) P w K mg base ["value", "a", "b", "one"] "is_set" (defScope (top 9)) f cdv A outer s H E) (V0 C) (WxE E) (defBody (top 9)) w_is_set := by
  have tk : Takes (cxOf (L2.CX P w) P w K mg base ["value", "a", "b", "one"] "is_set" (defScope (top 9)) f cdv A outer s H E) (WxE E) := takes_of rfl rfl rfl rfl
  have po := passes_of (X := cxOf (L2.CX P w) P w K mg base ["value", "a", "b", "one"] "is_set" (defScope (top 9)) f cdv A outer s H E) rfl
  have nd := sc_is_set.nd
  exact (sxs_cons (sx_if (TW.tx (tw_or (tx_not (tx_val (ex_isi "list" F.n_isinstance F.n_list rfl rfl (ex_var 0)))) (tw_or (tx_cmp (o_eq hr.units) (ex_var 0) (ex_lst ax_nil)) (tw_or1 (tx_not (tx_val (ex_blt (b_all rfl) F.n_all rfl (ax_cons (EX.rd (ex_lc rfl nd [("one", 3)] (ix_list (ex_var 0)) (blkOk_by (by kernel_rfl)) (fun _ _ _ _ _ => (gx_name 3 nd)) (fun _ _ _ _ _ => txs_nil) (fun _ _ _ _ _ => (ex_call0 takes0 c_is_int hr rfl (ax_cons (ex_var 3) (ax_cons ex_int (ax_cons (ex_gint rfl F.most) ax_nil))))))) ax_nil)))))))) (sxs_one (sx_ret ex_bl)) sxs_nil) (sxs_one (sx_ret (ex_blt (b_all rfl) F.n_all rfl (ax_cons (EX.rd (ex_lc rfl nd [("a", 1), ("b", 2)] (ix_zip F.n_zip rfl (ax_cons (ex_var 0) (ax_cons (ex_sl (ex_var 0) (ox_some ex_int) ox_none) ax_nil))) (blkOk_by (by kernel_rfl)) (fun _ _ _ _ _ => (gx_tup rfl (gxs_cons 1 nd (gxs_cons 2 nd gxs_nil)))) (fun _ _ _ _ _ => txs_nil) (fun _ _ _ _ _ => (ex_cmp o_lt (ex_var 1) (ex_var 2))))) ax_nil)))))
theorem len_is_set : ∀ ds θ N Nx, (sp_is_set.up : Spec Unit) ds θ N Nx → ds.length = 1 := by
  intro ds θ N Nx h
  trivial
theorem cal_is_set (X : Hx C K mg) : CalD P w K mg base 2 "is_set" (V0 C) sp_is_set.up := by
  obtain ⟨f, fd, F, hm⟩ := X.d_is_set
  exact cal_of F (def_ok F sc_is_set len_is_set law_is_set fun cdv A outer s H E hr => der_is_set X.fx ((cal_is_int X).mono (by decide)) f cdv A outer s H E hr) hm (F.bindsN fun _ _ _ _ _ _ us hl => match us, hl with | [_], _ => rfl)
theorem sc_is_item : FnScope ["value", "first", "last", "step", "one"] ["value"] (defScope (top 11)) := ⟨rfl, rfl, rfl, by decide +kernel, rfl, by decide +kernel, by decide +kernel⟩
theorem der_is_item (F : Fx C K mg) (c_is_int : CalD P w K mg base 1 "is_int" (V0 C) sp_is_int.up) (f : Addr) (cdv : Value) (A : Around) (outer : List Env) (s : Shared) (H : Hp) (E : XK) (hr : Room 1 (A.deeper (envOfC "is_item" (defScope (top 11)) s.heap.objs.size f cdv))) :
    SXs (cxOf (L2.CX P w) P w K mg base ["value", "first", "last", "step", "one"] "is_item" (defScope (top 11)) f cdv A outer s H E) (V0 C) (WxE E) (defBody (top 11)) w_is_item := by
  have tk : Takes (cxOf (L2.CX P w) P w K mg base ["value", "first", "last", "step", "one"] "is_item" (defScope (top 11)) f cdv A outer s H E) (WxE E) := takes_of rfl rfl rfl rfl
  have po := passes_of (X := cxOf (L2.CX P w) P w K mg base ["value", "first", "last", "step", "one"] "is_item" (defScope (top 11)) f cdv A outer s H E) rfl
  have nd := sc_is_item.nd
  exact (sxs_cons (sx_if (TW.tx (tw_or (tx_not (tx_val (ex_isi "tuple" F.n_isinstance F.n_tuple rfl rfl (ex_var 0)))) (tw_or (tx_cmp (o_ne hr.units) (ex_blt b_len F.n_len rfl (ax_cons (EX.rd (ex_var 0)) ax_nil)) ex_int) (tw_or1 (tx_not (tx_val (ex_blt (b_all rfl) F.n_all rfl (ax_cons (EX.rd (ex_lc rfl nd [("one", 4)] (ix_tuple (ex_var 0)) (blkOk_by (by kernel_rfl)) (fun _ _ _ _ _ => (gx_name 4 nd)) (fun _ _ _ _ _ => txs_nil) (fun _ _ _ _ _ => (ex_call0 takes0 c_is_int hr rfl (ax_cons (ex_var 4) (ax_cons ex_int (ax_cons (ex_gint rfl F.most) ax_nil))))))) ax_nil)))))))) (sxs_one (sx_ret ex_bl)) sxs_nil) (sxs_cons (sx_unp (ex_var 0) (gx_tup rfl (gxs_cons 1 nd (gxs_cons 2 nd (gxs_cons 3 nd gxs_nil))))) (sxs_cons (sx_if (tx_cmp (o_eq hr.units) (ex_var 1) (ex_var 2)) (sxs_one (sx_ret (ex_cmp (o_eq hr.units) (ex_var 3) ex_int))) sxs_nil) (sxs_one (sx_ret (ex_and (ex_cmp o_lt (ex_var 1) (ex_var 2)) (ex_one (ex_cmp (o_eq hr.units) (ex_op o_mod (ex_op o_sub (ex_var 2) (ex_var 1)) (ex_var 3)) ex_int))))))))
theorem len_is_item : ∀ ds θ N Nx, (sp_is_item.up : Spec Unit) ds θ N Nx → ds.length = 1 := by
  intro ds θ N Nx h
  trivial
theorem cal_is_item (X : Hx C K mg) : CalD P w K mg base 2 "is_item" (V0 C) sp_is_item.up := by
  obtain ⟨f, fd, F, hm⟩ := X.d_is_item
  exact cal_of F (def_ok F sc_is_item len_is_item law_is_item fun cdv A outer s H E hr => der_is_item X.fx ((cal_is_int X).mono (by decide)) f cdv A outer s H E hr) hm (F.bindsN fun _ _ _ _ _ _ us hl => match us, hl with | [_], _ => rfl)
theorem sc_greatest_of : FnScope ["some", "every", "found", "item", "own", "wider", "far", "one"] ["some"] (defScope (top 23)) := ⟨rfl, rfl, rfl, by decide +kernel, rfl, by decide +kernel, by decide +kernel⟩
theorem der_greatest_of (F : Fx C K mg) (c_within_of : CalD P w K mg base 1 "within_of" (V0 C) sp_within_of.up) (c_numbers_of : CalD P w K mg base 1 "numbers_of" (V0 C) sp_numbers_of.up) (f : Addr) (cdv : Value) (A : Around) (outer : List Env) (s : Shared) (H : Hp) (E : XK) (hr : Room 1 (A.deeper (envOfC "greatest_of" (defScope (top 23)) s.heap.objs.size f cdv))) :
    SXs (cxOf (L2.CX P w) P w K mg base ["some", "every", "found", "item", "own", "wider", "far", "one"] "greatest_of" (defScope (top 23)) f cdv A outer s H E) (V0 C) (WxE E) (defBody (top 23)) w_greatest_of := by
  have tk : Takes (cxOf (L2.CX P w) P w K mg base ["some", "every", "found", "item", "own", "wider", "far", "one"] "greatest_of" (defScope (top 23)) f cdv A outer s H E) (WxE E) := takes_of rfl rfl rfl rfl
  have po := passes_of (X := cxOf (L2.CX P w) P w K mg base ["some", "every", "found", "item", "own", "wider", "far", "one"] "greatest_of" (defScope (top 23)) f cdv A outer s H E) rfl
  have nd := sc_greatest_of.nd
  exact (sxs_cons (sx_set 1 nd (ex_call0 tk c_within_of hr rfl (ax_cons (ex_var 0) ax_nil))) (sxs_cons (sx_new 2 nd) (sxs_cons (sx_for po rfl (ix_list (ex_var 1)) (gx_name 3 nd) (sxs_cons (sx_set 4 nd (ex_call0 tk c_numbers_of hr rfl (ax_cons (ex_var 3) ax_nil))) (sxs_cons (sx_setLc 5 rfl nd [("far", 6)] (ix_list (ex_var 1)) (blkOk_by (by kernel_rfl)) (fun _ _ _ _ _ => (gx_name 6 nd)) (fun _ _ _ _ _ => (txs_one (TW.tx (tw_and (tx_cmp (o_ne hr.units) (ex_var 6) (ex_var 3)) (tw_and1 (tx_val (ex_blt (b_all rfl) F.n_all rfl (ax_cons (EX.rd (ex_lc rfl nd [("one", 7)] (ix_list (ex_var 4)) (blkOk_by (by kernel_rfl)) (fun _ _ _ _ _ => (gx_name 7 nd)) (fun _ _ _ _ _ => txs_nil) (fun _ _ _ _ _ => (ex_cmp (o_in hr.u65) (ex_var 7) (ex_call0 takes0 c_numbers_of hr rfl (ax_cons (ex_var 6) ax_nil)))))) ax_nil)))))))) (fun _ _ _ _ _ => (ex_var 6)) (sw_true rfl rfl rfl (by decide +kernel))) (sxs_one (sx_if (tx_cmp (o_eq hr.units) (ex_var 5) (ex_lst ax_nil)) (sxs_one (sx_append 2 (ex_var 3))) sxs_nil))))) (sxs_frz 2 (sxs_one (sx_ret (ex_var 2)))))))
theorem len_greatest_of : ∀ ds θ N Nx, (sp_greatest_of.up : Spec Unit) ds θ N Nx → ds.length = 1 := by
  intro ds θ N Nx h
  trivial
theorem cal_greatest_of (X : Hx C K mg) : CalD P w K mg base 2 "greatest_of" (V0 C) sp_greatest_of.up := by
  obtain ⟨f, fd, F, hm⟩ := X.d_greatest_of
  exact cal_of F (def_ok F sc_greatest_of len_greatest_of law_greatest_of fun cdv A outer s H E hr => der_greatest_of X.fx ((cal_within_of X).mono (by decide)) ((cal_numbers_of X).mono (by decide)) f cdv A outer s H E hr) hm (F.bindsN fun _ _ _ _ _ _ us hl => match us, hl with | [_], _ => rfl)
theorem sc_set_of : FnScope ["items", "found", "item"] ["items"] (defScope (top 26)) := ⟨rfl, rfl, rfl, by decide +kernel, rfl, by decide +kernel, by decide +kernel⟩
theorem der_set_of (F : Fx C K mg) (c_numbers_of : CalD P w K mg base 1 "numbers_of" (V0 C) sp_numbers_of.up) (f : Addr) (cdv : Value) (A : Around) (outer : List Env) (s : Shared) (H : Hp) (E : XK) (hr : Room 1 (A.deeper (envOfC "set_of" (defScope (top 26)) s.heap.objs.size f cdv))) :
    SXs (cxOf (L2.CX P w) P w K mg base ["items", "found", "item"] "set_of" (defScope (top 26)) f cdv A outer s H E) (V0 C) (WxE E) (defBody (top 26)) w_set_of := by
  have tk : Takes (cxOf (L2.CX P w) P w K mg base ["items", "found", "item"] "set_of" (defScope (top 26)) f cdv A outer s H E) (WxE E) := takes_of rfl rfl rfl rfl
  have po := passes_of (X := cxOf (L2.CX P w) P w K mg base ["items", "found", "item"] "set_of" (defScope (top 26)) f cdv A outer s H E) rfl
  have nd := sc_set_of.nd
  exact (sxs_cons (sx_new 1 nd) (sxs_cons (sx_for po rfl (ix_list (ex_var 0)) (gx_name 2 nd) (sxs_one (sx_extend 1 nd (ex_call0 tk c_numbers_of hr rfl (ax_cons (ex_var 2) ax_nil))))) (sxs_frz 1 (sxs_one (sx_ret (ex_sortSet rfl F.n_sorted F.n_set rfl rfl (ex_var 1)))))))
theorem len_set_of : ∀ ds θ N Nx, (sp_set_of.up : Spec Unit) ds θ N Nx → ds.length = 1 := by
  intro ds θ N Nx h
  trivial
theorem cal_set_of (X : Hx C K mg) : CalD P w K mg base 2 "set_of" (V0 C) sp_set_of.up := by
  obtain ⟨f, fd, F, hm⟩ := X.d_set_of
  exact cal_of F (def_ok F sc_set_of len_set_of law_set_of fun cdv A outer s H E hr => der_set_of X.fx ((cal_numbers_of X).mono (by decide)) f cdv A outer s H E hr) hm (F.bindsN fun _ _ _ _ _ _ us hl => match us, hl with | [_], _ => rfl)
theorem sc_weighed : FnScope ["some", "item"] ["some"] (defScope (top 32)) := ⟨rfl, rfl, rfl, by decide +kernel, rfl, by decide +kernel, by decide +kernel⟩
theorem der_weighed (F : Fx C K mg) (c_within_of : CalD P w K mg base 1 "within_of" (V0 C) sp_within_of.up) (c_numbers_of : CalD P w K mg base 1 "numbers_of" (V0 C) sp_numbers_of.up) (c_text_of : CalD P w K mg base 1 "text_of" (V0 C) sp_text_of.up) (f : Addr) (cdv : Value) (A : Around) (outer : List Env) (s : Shared) (H : Hp) (E : XK) (hr : Room 1 (A.deeper (envOfC "weighed" (defScope (top 32)) s.heap.objs.size f cdv))) :
    SXs (cxOf (L2.CX P w) P w K mg base ["some", "item"] "weighed" (defScope (top 32)) f cdv A outer s H E) (V0 C) (WxE E) (defBody (top 32)) w_weighed := by
  have tk : Takes (cxOf (L2.CX P w) P w K mg base ["some", "item"] "weighed" (defScope (top 32)) f cdv A outer s H E) (WxE E) := takes_of rfl rfl rfl rfl
  have po := passes_of (X := cxOf (L2.CX P w) P w K mg base ["some", "item"] "weighed" (defScope (top 32)) f cdv A outer s H E) rfl
  have nd := sc_weighed.nd
  exact (sxs_one (sx_ret (ex_lc rfl nd [("item", 1)] (ix_list (ex_call0 tk c_within_of hr rfl (ax_cons (ex_var 0) ax_nil))) (blkOk_by (by kernel_rfl)) (fun _ _ _ _ _ => (gx_name 1 nd)) (fun _ _ _ _ _ => txs_nil) (fun _ _ _ _ _ => (ex_tup (ax_cons (ex_var 1) (ax_cons (ex_ty b_tuple F.n_tuple rfl (ax_cons (EX.rd (ex_call0 takes0 c_numbers_of hr rfl (ax_cons (ex_var 1) ax_nil))) ax_nil)) (ax_cons (ex_op o_add (ex_blt b_len F.n_len rfl (ax_cons (EX.rd (ex_call0 takes0 c_text_of hr rfl (ax_cons (ex_var 1) ax_nil))) ax_nil)) ex_int) ax_nil))))))))
theorem len_weighed : ∀ ds θ N Nx, (sp_weighed.up : Spec Unit) ds θ N Nx → ds.length = 1 := by
  intro ds θ N Nx h
  trivial
theorem cal_weighed (X : Hx C K mg) : CalD P w K mg base 2 "weighed" (V0 C) sp_weighed.up := by
  obtain ⟨f, fd, F, hm⟩ := X.d_weighed
  exact cal_of F (def_ok F sc_weighed len_weighed law_weighed fun cdv A outer s H E hr => der_weighed X.fx ((cal_within_of X).mono (by decide)) ((cal_numbers_of X).mono (by decide)) ((cal_text_of X).mono (by decide)) f cdv A outer s H E hr) hm (F.bindsN fun _ _ _ _ _ _ us hl => match us, hl with | [_], _ => rfl)
theorem sc__law_pick : FnScope ["_law_draws", "_law_choices"] ["_law_draws", "_law_choices"] (defScope (top 54)) := ⟨rfl, rfl, rfl, by decide +kernel, rfl, by decide +kernel, by decide +kernel⟩
theorem der__law_pick (F : Fx C K mg) (c__law_draw : CalD P w K mg base 1 "_law_draw" (VD K C) spd_draw) (f : Addr) (cdv : Value) (A : Around) (outer : List Env) (s : Shared) (H : Hp) (E : XK) (hr : Room 1 (A.deeper (envOfC "_law_pick" (defScope (top 54)) s.heap.objs.size f cdv))) :
    SXs (cxOf (L2.CX P w) P w K mg base ["_law_draws", "_law_choices"] "_law_pick" (defScope (top 54)) f cdv A outer s H E) (VD K C) (WxE E) (defBody (top 54)) w__law_pick := by
  have tk : Takes (cxOf (L2.CX P w) P w K mg base ["_law_draws", "_law_choices"] "_law_pick" (defScope (top 54)) f cdv A outer s H E) (WxE E) := takes_of rfl rfl rfl rfl
  have po := passes_of (X := cxOf (L2.CX P w) P w K mg base ["_law_draws", "_law_choices"] "_law_pick" (defScope (top 54)) f cdv A outer s H E) rfl
  have nd := sc__law_pick.nd
  exact (sxs_one (sx_ret (ex_ix (ex_var 1) (ex_call tk c__law_draw hr rfl (ax_cons (ex_var 0) (ax_cons (ex_blt b_len F.n_len rfl (ax_cons (EX.rd (ex_var 1)) ax_nil)) ax_nil))))))
theorem len__law_pick : ∀ ds θ N Nx, (spd_pick : Spec DrawSt) ds θ N Nx → ds.length = 2 := by
  intro ds θ N Nx h
  trivial
theorem cal__law_pick (X : Hx C K mg) : CalD P w K mg base 2 "_law_pick" (VD K C) spd_pick := by
  obtain ⟨f, fd, F, hm⟩ := X.d__law_pick
  exact cal_of F (def_ok F sc__law_pick len__law_pick law_pick fun cdv A outer s H E hr => der__law_pick X.fx ((cal__law_draw X).mono (by decide)) f cdv A outer s H E hr) hm (F.bindsN fun _ _ _ _ _ _ us hl => match us, hl with | [_, _], _ => rfl)
theorem sc__law_inside : FnScope ["_law_some", "_law_item", "_law_one"] ["_law_some"] (defScope (top 58)) := ⟨rfl, rfl, rfl, by decide +kernel, rfl, by decide +kernel, by decide +kernel⟩
theorem der__law_inside (F : Fx C K mg) (c__law_items : CalD P w K mg base 1 "_law_items" (V0 C) sp__law_items.up) (c__law_numbers : CalD P w K mg base 1 "_law_numbers" (V0 C) sp__law_numbers.up) (f : Addr) (cdv : Value) (A : Around) (outer : List Env) (s : Shared) (H : Hp) (E : XK) (hr : Room 1 (A.deeper (envOfC "_law_inside" (defScope (top 58)) s.heap.objs.size f cdv))) :
    SXs (cxOf (L2.CX P w) P w K mg base ["_law_some", "_law_item", "_law_one"] "_law_inside" (defScope (top 58)) f cdv A outer s H E) (V0 C) (WxE E) (defBody (top 58)) w__law_inside := by
  have tk : Takes (cxOf (L2.CX P w) P w K mg base ["_law_some", "_law_item", "_law_one"] "_law_inside" (defScope (top 58)) f cdv A outer s H E) (WxE E) := takes_of rfl rfl rfl rfl
  have po := passes_of (X := cxOf (L2.CX P w) P w K mg base ["_law_some", "_law_item", "_law_one"] "_law_inside" (defScope (top 58)) f cdv A outer s H E) rfl
  have nd := sc__law_inside.nd
  exact (sxs_one (sx_ret (ex_lc rfl nd [("_law_item", 1)] (ix_list (ex_callN0 tk c__law_items hr rfl)) (blkOk_by (by kernel_rfl)) (fun _ _ _ _ _ => (gx_name 1 nd)) (fun _ _ _ _ _ => (txs_one (tx_cmp (o_eq hr.units) (ex_lc rfl nd [("_law_one", 2)] (ix_list (ex_call0 takes0 c__law_numbers hr rfl (ax_cons (ex_var 1) ax_nil))) (blkOk_by (by kernel_rfl)) (fun _ _ _ _ _ => (gx_name 2 nd)) (fun _ _ _ _ _ => (txs_one (tx_cmp (o_ni hr.u65) (ex_var 2) (ex_var 0)))) (fun _ _ _ _ _ => (ex_var 2))) (ex_lst ax_nil)))) (fun _ _ _ _ _ => (ex_var 1)))))
theorem len__law_inside : ∀ ds θ N Nx, (sp__law_inside.up : Spec Unit) ds θ N Nx → ds.length = 1 := by
  intro ds θ N Nx h
  trivial
theorem cal__law_inside (X : Hx C K mg) : CalD P w K mg base 2 "_law_inside" (V0 C) sp__law_inside.up := by
  obtain ⟨f, fd, F, hm⟩ := X.d__law_inside
  exact cal_of F (def_ok F sc__law_inside len__law_inside law_inside fun cdv A outer s H E hr => der__law_inside X.fx ((cal__law_items X).mono (by decide)) ((cal__law_numbers X).mono (by decide)) f cdv A outer s H E hr) hm (F.bindsN fun _ _ _ _ _ _ us hl => match us, hl with | [_], _ => rfl)
theorem sc_check_set : FnScope ["value"] ["value"] (defScope (top 10)) := ⟨rfl, rfl, rfl, by decide +kernel, rfl, by decide +kernel, by decide +kernel⟩
theorem der_check_set (F : Fx C K mg) (c_is_set : CalD P w K mg base 2 "is_set" (V0 C) sp_is_set.up) (f : Addr) (cdv : Value) (A : Around) (outer : List Env) (s : Shared) (H : Hp) (E : XK) (hr : Room 2 (A.deeper (envOfC "check_set" (defScope (top 10)) s.heap.objs.size f cdv))) :
    SXs (cxOf (L2.CX P w) P w K mg base ["value"] "check_set" (defScope (top 10)) f cdv A outer s H E) (V0 C) (WxE E) (defBody (top 10)) w_check_set := by
  have tk : Takes (cxOf (L2.CX P w) P w K mg base ["value"] "check_set" (defScope (top 10)) f cdv A outer s H E) (WxE E) := takes_of rfl rfl rfl rfl
  have po := passes_of (X := cxOf (L2.CX P w) P w K mg base ["value"] "check_set" (defScope (top 10)) f cdv A outer s H E) rfl
  have nd := sc_check_set.nd
  exact (sxs_one (sx_if (tx_not (tx_val (ex_call0 tk c_is_set hr rfl (ax_cons (ex_var 0) ax_nil)))) (sxs_one (sx_raise .set rfl tk F.x_set rfl)) sxs_nil))
theorem len_check_set : ∀ ds θ N Nx, (sp_check_set.up : Spec Unit) ds θ N Nx → ds.length = 1 := by
  intro ds θ N Nx h
  trivial
theorem cal_check_set (X : Hx C K mg) : CalD P w K mg base 3 "check_set" (V0 C) sp_check_set.up := by
  obtain ⟨f, fd, F, hm⟩ := X.d_check_set
  exact cal_of F (def_ok F sc_check_set len_check_set law_check_set fun cdv A outer s H E hr => der_check_set X.fx ((cal_is_set X).mono (by decide)) f cdv A outer s H E hr) hm (F.bindsN fun _ _ _ _ _ _ us hl => match us, hl with | [_], _ => rfl)
theorem sc_check_item : FnScope ["value"] ["value"] (defScope (top 12)) := ⟨rfl, rfl, rfl, by decide +kernel, rfl, by decide +kernel, by decide +kernel⟩
theorem der_check_item (F : Fx C K mg) (c_is_item : CalD P w K mg base 2 "is_item" (V0 C) sp_is_item.up) (f : Addr) (cdv : Value) (A : Around) (outer : List Env) (s : Shared) (H : Hp) (E : XK) (hr : Room 2 (A.deeper (envOfC "check_item" (defScope (top 12)) s.heap.objs.size f cdv))) :
    SXs (cxOf (L2.CX P w) P w K mg base ["value"] "check_item" (defScope (top 12)) f cdv A outer s H E) (V0 C) (WxE E) (defBody (top 12)) w_check_item := by
  have tk : Takes (cxOf (L2.CX P w) P w K mg base ["value"] "check_item" (defScope (top 12)) f cdv A outer s H E) (WxE E) := takes_of rfl rfl rfl rfl
  have po := passes_of (X := cxOf (L2.CX P w) P w K mg base ["value"] "check_item" (defScope (top 12)) f cdv A outer s H E) rfl
  have nd := sc_check_item.nd
  exact (sxs_one (sx_if (tx_not (tx_val (ex_call0 tk c_is_item hr rfl (ax_cons (ex_var 0) ax_nil)))) (sxs_one (sx_raise .item rfl tk F.x_item rfl)) sxs_nil))
theorem len_check_item : ∀ ds θ N Nx, (sp_check_item.up : Spec Unit) ds θ N Nx → ds.length = 1 := by
  intro ds θ N Nx h
  trivial
theorem cal_check_item (X : Hx C K mg) : CalD P w K mg base 3 "check_item" (V0 C) sp_check_item.up := by
  obtain ⟨f, fd, F, hm⟩ := X.d_check_item
  exact cal_of F (def_ok F sc_check_item len_check_item law_check_item fun cdv A outer s H E hr => der_check_item X.fx ((cal_is_item X).mono (by decide)) f cdv A outer s H E hr) hm (F.bindsN fun _ _ _ _ _ _ us hl => match us, hl with | [_], _ => rfl)
theorem sc_item_in : FnScope ["text", "step", "found", "head", "slash", "tail", "first", "dash", "last"] ["text"] (defScope (top 20)) := ⟨rfl, rfl, rfl, by decide +kernel, rfl, by decide +kernel, by decide +kernel⟩
theorem der_item_in (F : Fx C K mg) (c_number_in : CalD P w K mg base 2 "number_in" (V0 C) sp_number_in.up) (c_is_item : CalD P w K mg base 2 "is_item" (V0 C) sp_is_item.up) (c_text_of : CalD P w K mg base 2 "text_of" (V0 C) sp_text_of.up) (f : Addr) (cdv : Value) (A : Around) (outer : List Env) (s : Shared) (H : Hp) (E : XK) (hr : Room 2 (A.deeper (envOfC "item_in" (defScope (top 20)) s.heap.objs.size f cdv))) :
    SXs (cxOf (L2.CX P w) P w K mg base ["text", "step", "found", "head", "slash", "tail", "first", "dash", "last"] "item_in" (defScope (top 20)) f cdv A outer s H E) (V0 C) (WxE E) (defBody (top 20)) w_item_in := by
  have tk : Takes (cxOf (L2.CX P w) P w K mg base ["text", "step", "found", "head", "slash", "tail", "first", "dash", "last"] "item_in" (defScope (top 20)) f cdv A outer s H E) (WxE E) := takes_of rfl rfl rfl rfl
  have po := passes_of (X := cxOf (L2.CX P w) P w K mg base ["text", "step", "found", "head", "slash", "tail", "first", "dash", "last"] "item_in" (defScope (top 20)) f cdv A outer s H E) rfl
  have nd := sc_item_in.nd
  exact (sxs_cons (sx_unp (ex_part (ex_var 0) ex_str) (gx_tup rfl (gxs_cons 3 nd (gxs_cons 4 nd (gxs_cons 5 nd gxs_nil))))) (sxs_cons (sx_unp (ex_part (ex_var 3) ex_str) (gx_tup rfl (gxs_cons 6 nd (gxs_cons 7 nd (gxs_cons 8 nd gxs_nil))))) (sxs_cons (sx_if (TW.tx (tw_and (tx_cmp (o_ne hr.units) (ex_var 4) ex_str) (tw_and1 (TW.tx (tw_or (tx_cmp (o_eq hr.units) (ex_var 7) ex_str) (tw_or1 (tx_cmp o_lt (ex_call0 tk c_number_in hr rfl (ax_cons (ex_var 5) ax_nil)) ex_int))))))) (sxs_one (sx_ret ex_non)) sxs_nil) (sxs_cons (sx_set 1 nd (ex_if (tx_cmp (o_ne hr.units) (ex_var 4) ex_str) (ex_call0 tk c_number_in hr rfl (ax_cons (ex_var 5) ax_nil)) ex_int)) (sxs_cons (sx_set 2 nd (ex_tup (ax_cons (ex_call0 tk c_number_in hr rfl (ax_cons (ex_var 6) ax_nil)) (ax_cons (ex_call0 tk c_number_in hr rfl (ax_cons (ex_if (tx_cmp (o_ne hr.units) (ex_var 7) ex_str) (ex_var 8) (ex_var 6)) ax_nil)) (ax_cons (ex_var 1) ax_nil))))) (sxs_cons (sx_if (TW.tx (tw_or (tx_not (tx_val (ex_call0 tk c_is_item hr rfl (ax_cons (ex_var 2) ax_nil)))) (tw_or1 (tx_cmp (o_ne hr.units) (ex_call0 tk c_text_of hr rfl (ax_cons (ex_var 2) ax_nil)) (ex_var 0))))) (sxs_one (sx_ret ex_non)) sxs_nil) (sxs_one (sx_ret (ex_var 2)))))))))
theorem len_item_in : ∀ ds θ N Nx, (sp_item_in.up : Spec Unit) ds θ N Nx → ds.length = 1 := by
  intro ds θ N Nx h
  trivial
theorem cal_item_in (X : Hx C K mg) : CalD P w K mg base 3 "item_in" (V0 C) sp_item_in.up := by
  obtain ⟨f, fd, F, hm⟩ := X.d_item_in
  exact cal_of F (def_ok F sc_item_in len_item_in law_item_in fun cdv A outer s H E hr => der_item_in X.fx ((cal_number_in X).mono (by decide)) ((cal_is_item X).mono (by decide)) ((cal_text_of X).mono (by decide)) f cdv A outer s H E hr) hm (F.bindsN fun _ _ _ _ _ _ us hl => match us, hl with | [_], _ => rfl)
theorem sc__law_set : FnScope ["_law_draws", "_law_most", "_law_found", "_law_wide", "_law_number"] ["_law_draws", "_law_most"] (defScope (top 55)) := ⟨rfl, rfl, rfl, by decide +kernel, rfl, by decide +kernel, by decide +kernel⟩
theorem der__law_set (F : Fx C K mg) (c__law_pick : CalD P w K mg base 2 "_law_pick" (VD K C) spd_pick) (c__law_draw : CalD P w K mg base 2 "_law_draw" (VD K C) spd_draw) (f : Addr) (cdv : Value) (A : Around) (outer : List Env) (s : Shared) (H : Hp) (E : XK) (hr : Room 2 (A.deeper (envOfC "_law_set" (defScope (top 55)) s.heap.objs.size f cdv))) :
    SXs (cxOf (L2.CX P w) P w K mg base ["_law_draws", "_law_most", "_law_found", "_law_wide", "_law_number"] "_law_set" (defScope (top 55)) f cdv A outer s H E) (VD K C) (WxE E) (defBody (top 55)) w__law_set := by
  have tk : Takes (cxOf (L2.CX P w) P w K mg base ["_law_draws", "_law_most", "_law_found", "_law_wide", "_law_number"] "_law_set" (defScope (top 55)) f cdv A outer s H E) (WxE E) := takes_of rfl rfl rfl rfl
  have po := passes_of (X := cxOf (L2.CX P w) P w K mg base ["_law_draws", "_law_most", "_law_found", "_law_wide", "_law_number"] "_law_set" (defScope (top 55)) f cdv A outer s H E) rfl
  have nd := sc__law_set.nd
  exact (sxs_cons (sx_new 2 nd) (sxs_cons (sx_set 3 nd (ex_call tk c__law_pick hr rfl (ax_cons (ex_var 0) (ax_cons (ex_lst (ax_cons ex_int (ax_cons ex_int (ax_cons ex_int ax_nil)))) ax_nil)))) (sxs_cons (sx_for po rfl (ix_range2 F.n_range rfl (ax_cons (EX.rd ex_int) (ax_cons (EX.rd (ex_op o_add (ex_var 1) ex_int)) ax_nil))) (gx_name 4 nd) (sxs_one (sx_if (tx_cmp o_gt (ex_call tk c__law_draw hr rfl (ax_cons (ex_var 0) (ax_cons (ex_var 3) ax_nil))) ex_int) (sxs_one (sx_append 2 (ex_var 4))) sxs_nil))) (sxs_frz 2 (sxs_one (sx_ret (ex_if (tx_cmp (o_ne hr.units) (ex_var 2) (ex_lst ax_nil)) (ex_var 2) (ex_lst (ax_cons (ex_op o_add ex_int (ex_call tk c__law_draw hr rfl (ax_cons (ex_var 0) (ax_cons (ex_var 1) ax_nil)))) ax_nil)))))))))
theorem len__law_set : ∀ ds θ N Nx, (spd_set : Spec DrawSt) ds θ N Nx → ds.length = 2 := by
  intro ds θ N Nx h
  trivial
theorem cal__law_set (X : Hx C K mg) : CalD P w K mg base 3 "_law_set" (VD K C) spd_set := by
  obtain ⟨f, fd, F, hm⟩ := X.d__law_set
  exact cal_of F (def_ok F sc__law_set len__law_set law_set fun cdv A outer s H E hr => der__law_set X.fx ((cal__law_pick X).mono (by decide)) ((cal__law_draw X).mono (by decide)) f cdv A outer s H E hr) hm (F.bindsN fun _ _ _ _ _ _ us hl => match us, hl with | [_, _], _ => rfl)
theorem sc_item_numbers : FnScope ["item"] ["item"] (defScope (top 16)) := ⟨rfl, rfl, rfl, by decide +kernel, rfl, by decide +kernel, by decide +kernel⟩
theorem der_item_numbers (F : Fx C K mg) (c_check_item : CalD P w K mg base 3 "check_item" (V0 C) sp_check_item.up) (c_numbers_of : CalD P w K mg base 3 "numbers_of" (V0 C) sp_numbers_of.up) (f : Addr) (cdv : Value) (A : Around) (outer : List Env) (s : Shared) (H : Hp) (E : XK) (hr : Room 3 (A.deeper (envOfC "item_numbers" (defScope (top 16)) s.heap.objs.size f cdv))) :
    SXs (cxOf (L2.CX P w) P w K mg base ["item"] "item_numbers" (defScope (top 16)) f cdv A outer s H E) (V0 C) (WxE E) (defBody (top 16)) w_item_numbers := by
  have tk : Takes (cxOf (L2.CX P w) P w K mg base ["item"] "item_numbers" (defScope (top 16)) f cdv A outer s H E) (WxE E) := takes_of rfl rfl rfl rfl
  have po := passes_of (X := cxOf (L2.CX P w) P w K mg base ["item"] "item_numbers" (defScope (top 16)) f cdv A outer s H E) rfl
  have nd := sc_item_numbers.nd
  exact (sxs_cons (sx_expr (ex_call0 tk c_check_item hr rfl (ax_cons (ex_var 0) ax_nil))) (sxs_one (sx_ret (ex_call0 tk c_numbers_of hr rfl (ax_cons (ex_var 0) ax_nil)))))
theorem len_item_numbers : ∀ ds θ N Nx, (sp_item_numbers.up : Spec Unit) ds θ N Nx → ds.length = 1 := by
  intro ds θ N Nx h
  trivial
theorem cal_item_numbers (X : Hx C K mg) : CalD P w K mg base 4 "item_numbers" (V0 C) sp_item_numbers.up := by
  obtain ⟨f, fd, F, hm⟩ := X.d_item_numbers
  exact cal_of F (def_ok F sc_item_numbers len_item_numbers law_item_numbers fun cdv A outer s H E hr => der_item_numbers X.fx ((cal_check_item X).mono (by decide)) ((cal_numbers_of X).mono (by decide)) f cdv A outer s H E hr) hm (F.bindsN fun _ _ _ _ _ _ us hl => match us, hl with | [_], _ => rfl)
theorem sc_item_text : FnScope ["item"] ["item"] (defScope (top 18)) := ⟨rfl, rfl, rfl, by decide +kernel, rfl, by decide +kernel, by decide +kernel⟩
theorem der_item_text (F : Fx C K mg) (c_check_item : CalD P w K mg base 3 "check_item" (V0 C) sp_check_item.up) (c_text_of : CalD P w K mg base 3 "text_of" (V0 C) sp_text_of.up) (f : Addr) (cdv : Value) (A : Around) (outer : List Env) (s : Shared) (H : Hp) (E : XK) (hr : Room 3 (A.deeper (envOfC "item_text" (defScope (top 18)) s.heap.objs.size f cdv))) :
    SXs (cxOf (L2.CX P w) P w K mg base ["item"] "item_text" (defScope (top 18)) f cdv A outer s H E) (V0 C) (WxE E) (defBody (top 18)) w_item_text := by
  have tk : Takes (cxOf (L2.CX P w) P w K mg base ["item"] "item_text" (defScope (top 18)) f cdv A outer s H E) (WxE E) := takes_of rfl rfl rfl rfl
  have po := passes_of (X := cxOf (L2.CX P w) P w K mg base ["item"] "item_text" (defScope (top 18)) f cdv A outer s H E) rfl
  have nd := sc_item_text.nd
  exact (sxs_cons (sx_expr (ex_call0 tk c_check_item hr rfl (ax_cons (ex_var 0) ax_nil))) (sxs_one (sx_ret (ex_call0 tk c_text_of hr rfl (ax_cons (ex_var 0) ax_nil)))))
theorem len_item_text : ∀ ds θ N Nx, (sp_item_text.up : Spec Unit) ds θ N Nx → ds.length = 1 := by
  intro ds θ N Nx h
  trivial
theorem cal_item_text (X : Hx C K mg) : CalD P w K mg base 4 "item_text" (V0 C) sp_item_text.up := by
  obtain ⟨f, fd, F, hm⟩ := X.d_item_text
  exact cal_of F (def_ok F sc_item_text len_item_text law_item_text fun cdv A outer s H E hr => der_item_text X.fx ((cal_check_item X).mono (by decide)) ((cal_text_of X).mono (by decide)) f cdv A outer s H E hr) hm (F.bindsN fun _ _ _ _ _ _ us hl => match us, hl with | [_], _ => rfl)
theorem sc_items_within : FnScope ["some"] ["some"] (defScope (top 22)) := ⟨rfl, rfl, rfl, by decide +kernel, rfl, by decide +kernel, by decide +kernel⟩
theorem der_items_within (F : Fx C K mg) (c_check_set : CalD P w K mg base 3 "check_set" (V0 C) sp_check_set.up) (c_within_of : CalD P w K mg base 3 "within_of" (V0 C) sp_within_of.up) (f : Addr) (cdv : Value) (A : Around) (outer : List Env) (s : Shared) (H : Hp) (E : XK) (hr : Room 3 (A.deeper (envOfC "items_within" (defScope (top 22)) s.heap.objs.size f cdv))) :
    SXs (cxOf (L2.CX P w) P w K mg base ["some"] "items_within" (defScope (top 22)) f cdv A outer s H E) (V0 C) (WxE E) (defBody (top 22)) w_items_within := by
  have tk : Takes (cxOf (L2.CX P w) P w K mg base ["some"] "items_within" (defScope (top 22)) f cdv A outer s H E) (WxE E) := takes_of rfl rfl rfl rfl
  have po := passes_of (X := cxOf (L2.CX P w) P w K mg base ["some"] "items_within" (defScope (top 22)) f cdv A outer s H E) rfl
  have nd := sc_items_within.nd
  exact (sxs_cons (sx_expr (ex_call0 tk c_check_set hr rfl (ax_cons (ex_var 0) ax_nil))) (sxs_one (sx_ret (ex_call0 tk c_within_of hr rfl (ax_cons (ex_var 0) ax_nil)))))
theorem len_items_within : ∀ ds θ N Nx, (sp_items_within.up : Spec Unit) ds θ N Nx → ds.length = 1 := by
  intro ds θ N Nx h
  trivial
theorem cal_items_within (X : Hx C K mg) : CalD P w K mg base 4 "items_within" (V0 C) sp_items_within.up := by
  obtain ⟨f, fd, F, hm⟩ := X.d_items_within
  exact cal_of F (def_ok F sc_items_within len_items_within law_items_within fun cdv A outer s H E hr => der_items_within X.fx ((cal_check_set X).mono (by decide)) ((cal_within_of X).mono (by decide)) f cdv A outer s H E hr) hm (F.bindsN fun _ _ _ _ _ _ us hl => match us, hl with | [_], _ => rfl)
theorem sc_items_in : FnScope ["text", "found", "part"] ["text"] (defScope (top 25)) := ⟨rfl, rfl, rfl, by decide +kernel, rfl, by decide +kernel, by decide +kernel⟩
theorem der_items_in (F : Fx C K mg) (c_item_in : CalD P w K mg base 3 "item_in" (V0 C) sp_item_in.up) (f : Addr) (cdv : Value) (A : Around) (outer : List Env) (s : Shared) (H : Hp) (E : XK) (hr : Room 3 (A.deeper (envOfC "items_in" (defScope (top 25)) s.heap.objs.size f cdv))) :
    SXs (cxOf (L2.CX P w) P w K mg base ["text", "found", "part"] "items_in" (defScope (top 25)) f cdv A outer s H E) (V0 C) (WxE E) (defBody (top 25)) w_items_in := by
  have tk : Takes (cxOf (L2.CX P w) P w K mg base ["text", "found", "part"] "items_in" (defScope (top 25)) f cdv A outer s H E) (WxE E) := takes_of rfl rfl rfl rfl
  have po := passes_of (X := cxOf (L2.CX P w) P w K mg base ["text", "found", "part"] "items_in" (defScope (top 25)) f cdv A outer s H E) rfl
  have nd := sc_items_in.nd
  exact (sxs_cons (sx_if (tx_not (tx_val (ex_isi "str" F.n_isinstance F.n_str rfl rfl (ex_var 0)))) (sxs_one (sx_ret ex_non)) sxs_nil) (sxs_cons (sx_setLc 1 rfl nd [("part", 2)] (ix_list (ex_split (ex_var 0) ex_str)) (blkOk_by (by kernel_rfl)) (fun _ _ _ _ _ => (gx_name 2 nd)) (fun _ _ _ _ _ => txs_nil) (fun _ _ _ _ _ => (ex_call0 takes0 c_item_in hr rfl (ax_cons (ex_var 2) ax_nil))) (sw_true rfl rfl rfl (by decide +kernel))) (sxs_one (sx_ret (ex_if (tx_cmp (o_ni hr.u65) ex_non (ex_var 1)) (ex_var 1) ex_non)))))
theorem len_items_in : ∀ ds θ N Nx, (sp_items_in.up : Spec Unit) ds θ N Nx → ds.length = 1 := by
  intro ds θ N Nx h
  trivial
theorem cal_items_in (X : Hx C K mg) : CalD P w K mg base 4 "items_in" (V0 C) sp_items_in.up := by
  obtain ⟨f, fd, F, hm⟩ := X.d_items_in
  exact cal_of F (def_ok F sc_items_in len_items_in law_items_in fun cdv A outer s H E hr => der_items_in X.fx ((cal_item_in X).mono (by decide)) f cdv A outer s H E hr) hm (F.bindsN fun _ _ _ _ _ _ us hl => match us, hl with | [_], _ => rfl)
theorem sc_check_text : FnScope ["text"] ["text"] (defScope (top 27)) := ⟨rfl, rfl, rfl, by decide +kernel, rfl, by decide +kernel, by decide +kernel⟩
theorem der_check_text (F : Fx C K mg) (c_items_in : CalD P w K mg base 4 "items_in" (V0 C) sp_items_in.up) (f : Addr) (cdv : Value) (A : Around) (outer : List Env) (s : Shared) (H : Hp) (E : XK) (hr : Room 4 (A.deeper (envOfC "check_text" (defScope (top 27)) s.heap.objs.size f cdv))) :
    SXs (cxOf (L2.CX P w) P w K mg base ["text"] "check_text" (defScope (top 27)) f cdv A outer s H E) (V0 C) (WxE E) (defBody (top 27)) w_check_text := by
  have tk : Takes (cxOf (L2.CX P w) P w K mg base ["text"] "check_text" (defScope (top 27)) f cdv A outer s H E) (WxE E) := takes_of rfl rfl rfl rfl
  have po := passes_of (X := cxOf (L2.CX P w) P w K mg base ["text"] "check_text" (defScope (top 27)) f cdv A outer s H E) rfl
  have nd := sc_check_text.nd
  exact (sxs_one (sx_if (tx_cmp o_is (ex_call0 tk c_items_in hr rfl (ax_cons (ex_var 0) ax_nil)) ex_non) (sxs_one (sx_raise .text rfl tk F.x_text rfl)) sxs_nil))
theorem len_check_text : ∀ ds θ N Nx, (sp_check_text.up : Spec Unit) ds θ N Nx → ds.length = 1 := by
  intro ds θ N Nx h
  trivial
theorem cal_check_text (X : Hx C K mg) : CalD P w K mg base 5 "check_text" (V0 C) sp_check_text.up := by
  obtain ⟨f, fd, F, hm⟩ := X.d_check_text
  exact cal_of F (def_ok F sc_check_text len_check_text law_check_text fun cdv A outer s H E hr => der_check_text X.fx ((cal_items_in X).mono (by decide)) f cdv A outer s H E hr) hm (F.bindsN fun _ _ _ _ _ _ us hl => match us, hl with | [_], _ => rfl)
theorem sc_parse : FnScope ["text"] ["text"] (defScope (top 28)) := ⟨rfl, rfl, rfl, by decide +kernel, rfl, by decide +kernel, by decide +kernel⟩
theorem der_parse (F : Fx C K mg) (c_check_text : CalD P w K mg base 5 "check_text" (V0 C) sp_check_text.up) (c_set_of : CalD P w K mg base 5 "set_of" (V0 C) sp_set_of.up) (c_items_in : CalD P w K mg base 5 "items_in" (V0 C) sp_items_in.up) (f : Addr) (cdv : Value) (A : Around) (outer : List Env) (s : Shared) (H : Hp) (E : XK) (hr : Room 5 (A.deeper (envOfC "parse" (defScope (top 28)) s.heap.objs.size f cdv))) :
    SXs (cxOf (L2.CX P w) P w K mg base ["text"] "parse" (defScope (top 28)) f cdv A outer s H E) (V0 C) (WxE E) (defBody (top 28)) w_parse := by
  have tk : Takes (cxOf (L2.CX P w) P w K mg base ["text"] "parse" (defScope (top 28)) f cdv A outer s H E) (WxE E) := takes_of rfl rfl rfl rfl
  have po := passes_of (X := cxOf (L2.CX P w) P w K mg base ["text"] "parse" (defScope (top 28)) f cdv A outer s H E) rfl
  have nd := sc_parse.nd
  exact (sxs_cons (sx_expr (ex_call0 tk c_check_text hr rfl (ax_cons (ex_var 0) ax_nil))) (sxs_one (sx_ret (ex_call0 tk c_set_of hr rfl (ax_cons (ex_call0 tk c_items_in hr rfl (ax_cons (ex_var 0) ax_nil)) ax_nil)))))
theorem len_parse : ∀ ds θ N Nx, (sp_parse.up : Spec Unit) ds θ N Nx → ds.length = 1 := by
  intro ds θ N Nx h
  trivial
theorem cal_parse (X : Hx C K mg) : CalD P w K mg base 6 "parse" (V0 C) sp_parse.up := by
  obtain ⟨f, fd, F, hm⟩ := X.d_parse
  exact cal_of F (def_ok F sc_parse len_parse law_parse fun cdv A outer s H E hr => der_parse X.fx ((cal_check_text X).mono (by decide)) ((cal_set_of X).mono (by decide)) ((cal_items_in X).mono (by decide)) f cdv A outer s H E hr) hm (F.bindsN fun _ _ _ _ _ _ us hl => match us, hl with | [_], _ => rfl)
theorem sc_items : FnScope ["text"] ["text"] (defScope (top 29)) := ⟨rfl, rfl, rfl, by decide +kernel, rfl, by decide +kernel, by decide +kernel⟩
theorem der_items (F : Fx C K mg) (c_check_text : CalD P w K mg base 5 "check_text" (V0 C) sp_check_text.up) (c_items_in : CalD P w K mg base 5 "items_in" (V0 C) sp_items_in.up) (f : Addr) (cdv : Value) (A : Around) (outer : List Env) (s : Shared) (H : Hp) (E : XK) (hr : Room 5 (A.deeper (envOfC "items" (defScope (top 29)) s.heap.objs.size f cdv))) :
    SXs (cxOf (L2.CX P w) P w K mg base ["text"] "items" (defScope (top 29)) f cdv A outer s H E) (V0 C) (WxE E) (defBody (top 29)) w_items := by
  have tk : Takes (cxOf (L2.CX P w) P w K mg base ["text"] "items" (defScope (top 29)) f cdv A outer s H E) (WxE E) := takes_of rfl rfl rfl rfl
  have po := passes_of (X := cxOf (L2.CX P w) P w K mg base ["text"] "items" (defScope (top 29)) f cdv A outer s H E) rfl
  have nd := sc_items.nd
  exact (sxs_cons (sx_expr (ex_call0 tk c_check_text hr rfl (ax_cons (ex_var 0) ax_nil))) (sxs_one (sx_ret (ex_call0 tk c_items_in hr rfl (ax_cons (ex_var 0) ax_nil)))))
theorem len_items : ∀ ds θ N Nx, (sp_items.up : Spec Unit) ds θ N Nx → ds.length = 1 := by
  intro ds θ N Nx h
  trivial
theorem cal_items (X : Hx C K mg) : CalD P w K mg base 6 "items" (V0 C) sp_items.up := by
  obtain ⟨f, fd, F, hm⟩ := X.d_items
  exact cal_of F (def_ok F sc_items len_items law_items fun cdv A outer s H E hr => der_items X.fx ((cal_check_text X).mono (by decide)) ((cal_items_in X).mono (by decide)) f cdv A outer s H E hr) hm (F.bindsN fun _ _ _ _ _ _ us hl => match us, hl with | [_], _ => rfl)
theorem sc_mean_same : FnScope ["text", "other"] ["text", "other"] (defScope (top 30)) := ⟨rfl, rfl, rfl, by decide +kernel, rfl, by decide +kernel, by decide +kernel⟩
theorem der_mean_same (F : Fx C K mg) (c_check_text : CalD P w K mg base 5 "check_text" (V0 C) sp_check_text.up) (c_set_of : CalD P w K mg base 5 "set_of" (V0 C) sp_set_of.up) (c_items_in : CalD P w K mg base 5 "items_in" (V0 C) sp_items_in.up) (f : Addr) (cdv : Value) (A : Around) (outer : List Env) (s : Shared) (H : Hp) (E : XK) (hr : Room 5 (A.deeper (envOfC "mean_same" (defScope (top 30)) s.heap.objs.size f cdv))) :
    SXs (cxOf (L2.CX P w) P w K mg base ["text", "other"] "mean_same" (defScope (top 30)) f cdv A outer s H E) (V0 C) (WxE E) (defBody (top 30)) w_mean_same := by
  have tk : Takes (cxOf (L2.CX P w) P w K mg base ["text", "other"] "mean_same" (defScope (top 30)) f cdv A outer s H E) (WxE E) := takes_of rfl rfl rfl rfl
  have po := passes_of (X := cxOf (L2.CX P w) P w K mg base ["text", "other"] "mean_same" (defScope (top 30)) f cdv A outer s H E) rfl
  have nd := sc_mean_same.nd
  exact (sxs_cons (sx_expr (ex_call0 tk c_check_text hr rfl (ax_cons (ex_var 0) ax_nil))) (sxs_cons (sx_expr (ex_call0 tk c_check_text hr rfl (ax_cons (ex_var 1) ax_nil))) (sxs_one (sx_ret (ex_cmp (o_eq hr.units) (ex_call0 tk c_set_of hr rfl (ax_cons (ex_call0 tk c_items_in hr rfl (ax_cons (ex_var 0) ax_nil)) ax_nil)) (ex_call0 tk c_set_of hr rfl (ax_cons (ex_call0 tk c_items_in hr rfl (ax_cons (ex_var 1) ax_nil)) ax_nil)))))))
theorem len_mean_same : ∀ ds θ N Nx, (sp_mean_same.up : Spec Unit) ds θ N Nx → ds.length = 2 := by
  intro ds θ N Nx h
  trivial
theorem cal_mean_same (X : Hx C K mg) : CalD P w K mg base 6 "mean_same" (V0 C) sp_mean_same.up := by
  obtain ⟨f, fd, F, hm⟩ := X.d_mean_same
  exact cal_of F (def_ok F sc_mean_same len_mean_same law_mean_same fun cdv A outer s H E hr => der_mean_same X.fx ((cal_check_text X).mono (by decide)) ((cal_set_of X).mono (by decide)) ((cal_items_in X).mono (by decide)) f cdv A outer s H E hr) hm (F.bindsN fun _ _ _ _ _ _ us hl => match us, hl with | [_, _], _ => rfl)
theorem sc_contains : FnScope ["some", "text", "number"] ["some", "text"] (defScope (top 46)) := ⟨rfl, rfl, rfl, by decide +kernel, rfl, by decide +kernel, by decide +kernel⟩
theorem der_contains (F : Fx C K mg) (c_check_set : CalD P w K mg base 5 "check_set" (V0 C) sp_check_set.up) (c_check_text : CalD P w K mg base 5 "check_text" (V0 C) sp_check_text.up) (c_set_of : CalD P w K mg base 5 "set_of" (V0 C) sp_set_of.up) (c_items_in : CalD P w K mg base 5 "items_in" (V0 C) sp_items_in.up) (f : Addr) (cdv : Value) (A : Around) (outer : List Env) (s : Shared) (H : Hp) (E : XK) (hr : Room 5 (A.deeper (envOfC "contains" (defScope (top 46)) s.heap.objs.size f cdv))) :
    SXs (cxOf (L2.CX P w) P w K mg base ["some", "text", "number"] "contains" (defScope (top 46)) f cdv A outer s H E) (V0 C) (WxE E) (defBody (top 46)) w_contains := by
  have tk : Takes (cxOf (L2.CX P w) P w K mg base ["some", "text", "number"] "contains" (defScope (top 46)) f cdv A outer s H E) (WxE E) := takes_of rfl rfl rfl rfl
  have po := passes_of (X := cxOf (L2.CX P w) P w K mg base ["some", "text", "number"] "contains" (defScope (top 46)) f cdv A outer s H E) rfl
  have nd := sc_contains.nd
  exact (sxs_cons (sx_expr (ex_call0 tk c_check_set hr rfl (ax_cons (ex_var 0) ax_nil))) (sxs_cons (sx_expr (ex_call0 tk c_check_text hr rfl (ax_cons (ex_var 1) ax_nil))) (sxs_one (sx_ret (ex_blt (b_all rfl) F.n_all rfl (ax_cons (EX.rd (ex_lc rfl nd [("number", 2)] (ix_list (ex_call0 tk c_set_of hr rfl (ax_cons (ex_call0 tk c_items_in hr rfl (ax_cons (ex_var 1) ax_nil)) ax_nil))) (blkOk_by (by kernel_rfl)) (fun _ _ _ _ _ => (gx_name 2 nd)) (fun _ _ _ _ _ => txs_nil) (fun _ _ _ _ _ => (ex_cmp (o_in hr.u65) (ex_var 2) (ex_var 0))))) ax_nil))))))
theorem len_contains : ∀ ds θ N Nx, (sp_contains.up : Spec Unit) ds θ N Nx → ds.length = 2 := by
  intro ds θ N Nx h
  trivial
theorem cal_contains (X : Hx C K mg) : CalD P w K mg base 6 "contains" (V0 C) sp_contains.up := by
  obtain ⟨f, fd, F, hm⟩ := X.d_contains
  exact cal_of F (def_ok F sc_contains len_contains law_contains fun cdv A outer s H E hr => der_contains X.fx ((cal_check_set X).mono (by decide)) ((cal_check_text X).mono (by decide)) ((cal_set_of X).mono (by decide)) ((cal_items_in X).mono (by decide)) f cdv A outer s H E hr) hm (F.bindsN fun _ _ _ _ _ _ us hl => match us, hl with | [_, _], _ => rfl)
theorem sc_with_item : FnScope ["text", "item"] ["text", "item"] (defScope (top 48)) := ⟨rfl, rfl, rfl, by decide +kernel, rfl, by decide +kernel, by decide +kernel⟩
theorem der_with_item (F : Fx C K mg) (c_check_text : CalD P w K mg base 5 "check_text" (V0 C) sp_check_text.up) (c_check_item : CalD P w K mg base 5 "check_item" (V0 C) sp_check_item.up) (c_text_of : CalD P w K mg base 5 "text_of" (V0 C) sp_text_of.up) (f : Addr) (cdv : Value) (A : Around) (outer : List Env) (s : Shared) (H : Hp) (E : XK) (hr : Room 5 (A.deeper (envOfC "with_item" (defScope (top 48)) s.heap.objs.size f cdv))) :
    SXs (cxOf (L2.CX P w) P w K mg base ["text", "item"] "with_item" (defScope (top 48)) f cdv A outer s H E) (V0 C) (WxE E) (defBody (top 48)) w_with_item := by
  have tk : Takes (cxOf (L2.CX P w) P w K mg base ["text", "item"] "with_item" (defScope (top 48)) f cdv A outer s H E) (WxE E) := takes_of rfl rfl rfl rfl
  have po := passes_of (X := cxOf (L2.CX P w) P w K mg base ["text", "item"] "with_item" (defScope (top 48)) f cdv A outer s H E) rfl
  have nd := sc_with_item.nd
  exact (sxs_cons (sx_expr (ex_call0 tk c_check_text hr rfl (ax_cons (ex_var 0) ax_nil))) (sxs_cons (sx_expr (ex_call0 tk c_check_item hr rfl (ax_cons (ex_var 1) ax_nil))) (sxs_one (sx_ret (ex_op o_add (ex_op o_add (ex_var 0) ex_str) (ex_call0 tk c_text_of hr rfl (ax_cons (ex_var 1) ax_nil)))))))
theorem len_with_item : ∀ ds θ N Nx, (sp_with_item.up : Spec Unit) ds θ N Nx → ds.length = 2 := by
  intro ds θ N Nx h
  trivial
theorem cal_with_item (X : Hx C K mg) : CalD P w K mg base 6 "with_item" (V0 C) sp_with_item.up := by
  obtain ⟨f, fd, F, hm⟩ := X.d_with_item
  exact cal_of F (def_ok F sc_with_item len_with_item law_with_item fun cdv A outer s H E hr => der_with_item X.fx ((cal_check_text X).mono (by decide)) ((cal_check_item X).mono (by decide)) ((cal_text_of X).mono (by decide)) f cdv A outer s H E hr) hm (F.bindsN fun _ _ _ _ _ _ us hl => match us, hl with | [_, _], _ => rfl)
theorem sc_without_item : FnScope ["text", "place", "parts"] ["text", "place"] (defScope (top 49)) := ⟨rfl, rfl, rfl, by decide +kernel, rfl, by decide +kernel, by decide +kernel⟩
theorem der_without_item (F : Fx C K mg) (c_check_text : CalD P w K mg base 5 "check_text" (V0 C) sp_check_text.up) (c_is_int : CalD P w K mg base 5 "is_int" (V0 C) sp_is_int.up) (f : Addr) (cdv : Value) (A : Around) (outer : List Env) (s : Shared) (H : Hp) (E : XK) (hr : Room 5 (A.deeper (envOfC "without_item" (defScope (top 49)) s.heap.objs.size f cdv))) :
    SXs (cxOf (L2.CX P w) P w K mg base ["text", "place", "parts"] "without_item" (defScope (top 49)) f cdv A outer s H E) (V0 C) (WxE E) (defBody (top 49)) w_without_item := by
  have tk : Takes (cxOf (L2.CX P w) P w K mg base ["text", "place", "parts"] "without_item" (defScope (top 49)) f cdv A outer s H E) (WxE E) := takes_of rfl rfl rfl rfl
  have po := passes_of (X := cxOf (L2.CX P w) P w K mg base ["text", "place", "parts"] "without_item" (defScope (top 49)) f cdv A outer s H E) rfl
  have nd := sc_without_item.nd
  exact (sxs_cons (sx_expr (ex_call0 tk c_check_text hr rfl (ax_cons (ex_var 0) ax_nil))) (sxs_cons (sx_set 2 nd (ex_split (ex_var 0) ex_str)) (sxs_cons (sx_if (tx_not (tx_val (ex_call0 tk c_is_int hr rfl (ax_cons (ex_var 1) (ax_cons ex_int (ax_cons (ex_op o_sub (ex_blt b_len F.n_len rfl (ax_cons (EX.rd (ex_var 2)) ax_nil)) ex_int) ax_nil)))))) (sxs_one (sx_raise .number rfl tk F.x_number rfl)) sxs_nil) (sxs_cons (sx_if (tx_cmp (o_eq hr.units) (ex_blt b_len F.n_len rfl (ax_cons (EX.rd (ex_var 2)) ax_nil)) ex_int) (sxs_one (sx_raise .none rfl tk F.x_none rfl)) sxs_nil) (sxs_one (sx_ret (ex_join ex_str (ex_op o_add (ex_sl (ex_var 2) ox_none (ox_some (ex_var 1))) (ex_sl (ex_var 2) (ox_some (ex_op o_add (ex_var 1) ex_int)) ox_none)))))))))
theorem len_without_item : ∀ ds θ N Nx, (sp_without_item.up : Spec Unit) ds θ N Nx → ds.length = 2 := by
  intro ds θ N Nx h
  trivial
theorem cal_without_item (X : Hx C K mg) : CalD P w K mg base 6 "without_item" (V0 C) sp_without_item.up := by
  obtain ⟨f, fd, F, hm⟩ := X.d_without_item
  exact cal_of F (def_ok F sc_without_item len_without_item law_without_item fun cdv A outer s H E hr => der_without_item X.fx ((cal_check_text X).mono (by decide)) ((cal_is_int X).mono (by decide)) f cdv A outer s H E hr) hm (F.bindsN fun _ _ _ _ _ _ us hl => match us, hl with | [_, _], _ => rfl)
theorem sc_pruned : FnScope ["text", "every", "place", "rest", "item"] ["text"] (defScope (top 50)) := ⟨rfl, rfl, rfl, by decide +kernel, rfl, by decide +kernel, by decide +kernel⟩
theorem der_pruned (F : Fx C K mg) (c_check_text : CalD P w K mg base 5 "check_text" (V0 C) sp_check_text.up) (c_items_in : CalD P w K mg base 5 "items_in" (V0 C) sp_items_in.up) (c_set_of : CalD P w K mg base 5 "set_of" (V0 C) sp_set_of.up) (c_text_of : CalD P w K mg base 5 "text_of" (V0 C) sp_text_of.up) (f : Addr) (cdv : Value) (A : Around) (outer : List Env) (s : Shared) (H : Hp) (E : XK) (hr : Room 5 (A.deeper (envOfC "pruned" (defScope (top 50)) s.heap.objs.size f cdv))) :
    SXs (cxOf (L2.CX P w) P w K mg base ["text", "every", "place", "rest", "item"] "pruned" (defScope (top 50)) f cdv A outer s H E) (V0 C) (WxE E) (defBody (top 50)) w_pruned := by
  have tk : Takes (cxOf (L2.CX P w) P w K mg base ["text", "every", "place", "rest", "item"] "pruned" (defScope (top 50)) f cdv A outer s H E) (WxE E) := takes_of rfl rfl rfl rfl
  have po := passes_of (X := cxOf (L2.CX P w) P w K mg base ["text", "every", "place", "rest", "item"] "pruned" (defScope (top 50)) f cdv A outer s H E) rfl
  have nd := sc_pruned.nd
  exact (sxs_cons (sx_expr (ex_call0 tk c_check_text hr rfl (ax_cons (ex_var 0) ax_nil))) (sxs_cons (sx_set 1 nd (ex_call0 tk c_items_in hr rfl (ax_cons (ex_var 0) ax_nil))) (sxs_cons (sx_set 2 nd ex_int) (sxs_cons (sx_while po (tx_cmp o_lt (ex_var 2) (ex_blt b_len F.n_len rfl (ax_cons (EX.rd (ex_var 1)) ax_nil))) (sxs_cons (sx_set 3 nd (ex_op o_add (ex_sl (ex_var 1) ox_none (ox_some (ex_var 2))) (ex_sl (ex_var 1) (ox_some (ex_op o_add (ex_var 2) ex_int)) ox_none))) (sxs_one (sx_if (TW.tx (tw_and (tx_cmp (o_ne hr.units) (ex_var 3) (ex_lst ax_nil)) (tw_and1 (tx_cmp (o_eq hr.units) (ex_call0 tk c_set_of hr rfl (ax_cons (ex_var 3) ax_nil)) (ex_call0 tk c_set_of hr rfl (ax_cons (ex_var 1) ax_nil)))))) (sxs_cons (sx_set 1 nd (ex_var 3)) (sxs_one (sx_set 2 nd ex_int))) (sxs_one (sx_aug 2 nd o_iadd ex_int)))))) (sxs_one (sx_ret (ex_join ex_str (ex_lc rfl nd [("item", 4)] (ix_list (ex_var 1)) (blkOk_by (by kernel_rfl)) (fun _ _ _ _ _ => (gx_name 4 nd)) (fun _ _ _ _ _ => txs_nil) (fun _ _ _ _ _ => (ex_call0 takes0 c_text_of hr rfl (ax_cons (ex_var 4) ax_nil)))))))))))
theorem len_pruned : ∀ ds θ N Nx, (sp_pruned.up : Spec Unit) ds θ N Nx → ds.length = 1 := by
  intro ds θ N Nx h
  trivial
theorem cal_pruned (X : Hx C K mg) : CalD P w K mg base 6 "pruned" (V0 C) sp_pruned.up := by
  obtain ⟨f, fd, F, hm⟩ := X.d_pruned
  exact cal_of F (def_ok F sc_pruned len_pruned law_pruned fun cdv A outer s H E hr => der_pruned X.fx ((cal_check_text X).mono (by decide)) ((cal_items_in X).mono (by decide)) ((cal_set_of X).mono (by decide)) ((cal_text_of X).mono (by decide)) f cdv A outer s H E hr) hm (F.bindsN fun _ _ _ _ _ _ us hl => match us, hl with | [_], _ => rfl)
theorem sc_least_from : FnScope ["left", "every", "known", "best", "item", "own", "length", "rest", "whole", "one"] ["left", "every", "known"] (defScope (top 33)) := ⟨rfl, rfl, rfl, by decide +kernel, rfl, by decide +kernel, by decide +kernel⟩
theorem der_least_from (F : Fx C K mg) (sp : Spec MS) (lv : Nat) (c_least_from : CalD P w K mg base lv "least_from" (VM C) sp) (f : Addr) (cdv : Value) (A : Around) (outer : List Env) (s : Shared) (H : Hp) (E : XK) (hr : Room lv (A.deeper (envOfC "least_from" (defScope (top 33)) s.heap.objs.size f cdv))) :
    SXs (cxOf (L2.CX P w) P w K mg base ["left", "every", "known", "best", "item", "own", "length", "rest", "whole", "one"] "least_from" (defScope (top 33)) f cdv A outer s H E) (VM C) (WxE E) (defBody (top 33)) (w_least_from sp) := by
  have tk : Takes (cxOf (L2.CX P w) P w K mg base ["left", "every", "known", "best", "item", "own", "length", "rest", "whole", "one"] "least_from" (defScope (top 33)) f cdv A outer s H E) (WxE E) := takes_of rfl rfl rfl rfl
  have po := passes_of (X := cxOf (L2.CX P w) P w K mg base ["left", "every", "known", "best", "item", "own", "length", "rest", "whole", "one"] "least_from" (defScope (top 33)) f cdv A outer s H E) rfl
  have nd := sc_least_from.nd
  exact (sxs_cons (sx_if (tx_cmp (o_eq hr.units) (ex_var 0) (ex_tup ax_nil)) (sxs_one (sx_ret ex_int)) sxs_nil) (sxs_cons (sx_if (tx_dni hr.u65 (ex_var 0) (ex_var 2)) (sxs_cons (sx_set 3 nd ex_non) (sxs_cons (sx_for po rfl (ix_list (ex_var 1)) (gx_tup rfl (gxs_cons 4 nd (gxs_cons 5 nd (gxs_cons 6 nd gxs_nil)))) (sxs_one (sx_if (tx_cmp (o_in hr.u65) (ex_ix (ex_var 0) ex_int) (ex_var 5)) (sxs_cons (sx_set 7 nd (ex_ty b_tuple F.n_tuple rfl (ax_cons (EX.rd (ex_lc rfl nd [("one", 9)] (ix_tuple (ex_var 0)) (blkOk_by (by kernel_rfl)) (fun _ _ _ _ _ => (gx_name 9 nd)) (fun _ _ _ _ _ => (txs_one (tx_cmp (o_ni hr.u65) (ex_var 9) (ex_var 5)))) (fun _ _ _ _ _ => (ex_var 9)))) ax_nil))) (sxs_cons (sx_set 8 nd (ex_op o_add (ex_var 6) (ex_call tk c_least_from hr rfl (ax_cons (ex_var 7) (ax_cons (ex_var 1) (ax_cons (ex_var 2) ax_nil)))))) (sxs_one (sx_set 3 nd (ex_if (TW.tx (tw_or (tx_cmp o_is (ex_var 3) ex_non) (tw_or1 (tx_cmp o_lt (ex_var 8) (ex_var 3))))) (ex_var 8) (ex_var 3)))))) sxs_nil))) (sxs_one (sx_dput hr.u65 (ex_var 2) (ex_var 0) (ex_var 3))))) sxs_nil) (sxs_one (sx_ret (ex_dget hr.u65 (ex_var 2) (ex_var 0))))))
theorem len_least_from : ∀ k ds θ N Nx, (spm_least k : Spec MS) ds θ N Nx → ds.length = 3 := by
  intro k ds θ N Nx h
  trivial
theorem caln_least_from (X : Hx C K mg) : ∀ n, CalD P w K mg base (0 + 1 + n) "least_from" (VM C) (prevM spm_least n)
  | 0 => by
    obtain ⟨f, fd, F, hm⟩ := X.d_least_from
    refine cal_of F (F.ok sc_least_from (fun vs H Q E h => ?_) (fun cdv A outer s H vs Q E hr h => ?_)) hm (F.bindsN fun _ _ _ _ _ _ us hl => match us, hl with | [_, _, _], _ => rfl)
    · obtain ⟨_, _, _, _, _, _, _, _, _, z, _⟩ := h
      exact False.elim z
    · obtain ⟨_, _, _, _, _, _, _, _, _, z, _⟩ := h
      exact False.elim z
  | n + 1 => by
    obtain ⟨f, fd, F, hm⟩ := X.d_least_from
    exact cal_of F (def_ok (spec := spm_least n) F sc_least_from (len_least_from n) (law_least_from n) fun cdv A outer s H E hr => der_least_from X.fx (prevM spm_least n) _ (caln_least_from X n) f cdv A outer s H E hr) hm (F.bindsN fun _ _ _ _ _ _ us hl => match us, hl with | [_, _, _], _ => rfl)
theorem cal_least_from (X : Hx C K mg) : CalD P w K mg base 12 "least_from" (VM C) (spm_least 10) := caln_least_from X 11
theorem sc_fewest_from : FnScope ["left", "every", "known", "best", "own", "whole", "one"] ["left", "every", "known"] (defScope (top 42)) := ⟨rfl, rfl, rfl, by decide +kernel, rfl, by decide +kernel, by decide +kernel⟩
theorem der_fewest_from (F : Fx C K mg) (sp : Spec MS) (lv : Nat) (c_fewest_from : CalD P w K mg base lv "fewest_from" (VM C) sp) (f : Addr) (cdv : Value) (A : Around) (outer : List Env) (s : Shared) (H : Hp) (E : XK) (hr : Room lv (A.deeper (envOfC "fewest_from" (defScope (top 42)) s.heap.objs.size f cdv))) :
    SXs (cxOf (L2.CX P w) P w K mg base ["left", "every", "known", "best", "own", "whole", "one"] "fewest_from" (defScope (top 42)) f cdv A outer s H E) (VM C) (WxE E) (defBody (top 42)) (w_fewest_from sp) := by
  have tk : Takes (cxOf (L2.CX P w) P w K mg base ["left", "every", "known", "best", "own", "whole", "one"] "fewest_from" (defScope (top 42)) f cdv A outer s H E) (WxE E) := takes_of rfl rfl rfl rfl
  have po := passes_of (X := cxOf (L2.CX P w) P w K mg base ["left", "every", "known", "best", "own", "whole", "one"] "fewest_from" (defScope (top 42)) f cdv A outer s H E) rfl
  have nd := sc_fewest_from.nd
  exact (sxs_cons (sx_if (tx_cmp (o_eq hr.units) (ex_var 0) (ex_tup ax_nil)) (sxs_one (sx_ret ex_int)) sxs_nil) (sxs_cons (sx_if (tx_dni hr.u65 (ex_var 0) (ex_var 2)) (sxs_cons (sx_set 3 nd ex_non) (sxs_cons (sx_for po rfl (ix_list (ex_var 1)) (gx_name 4 nd) (sxs_one (sx_if (tx_cmp (o_in hr.u65) (ex_ix (ex_var 0) ex_int) (ex_var 4)) (sxs_cons (sx_set 5 nd (ex_op o_add ex_int (ex_call tk c_fewest_from hr rfl (ax_cons (ex_ty b_tuple F.n_tuple rfl (ax_cons (EX.rd (ex_lc rfl nd [("one", 6)] (ix_tuple (ex_var 0)) (blkOk_by (by kernel_rfl)) (fun _ _ _ _ _ => (gx_name 6 nd)) (fun _ _ _ _ _ => (txs_one (tx_cmp (o_ni hr.u65) (ex_var 6) (ex_var 4)))) (fun _ _ _ _ _ => (ex_var 6)))) ax_nil)) (ax_cons (ex_var 1) (ax_cons (ex_var 2) ax_nil)))))) (sxs_one (sx_set 3 nd (ex_if (TW.tx (tw_or (tx_cmp o_is (ex_var 3) ex_non) (tw_or1 (tx_cmp o_lt (ex_var 5) (ex_var 3))))) (ex_var 5) (ex_var 3))))) sxs_nil))) (sxs_one (sx_dput hr.u65 (ex_var 2) (ex_var 0) (ex_var 3))))) sxs_nil) (sxs_one (sx_ret (ex_dget hr.u65 (ex_var 2) (ex_var 0))))))
theorem len_fewest_from : ∀ k ds θ N Nx, (spm_fewest k : Spec MS) ds θ N Nx → ds.length = 3 := by
  intro k ds θ N Nx h
  trivial
theorem caln_fewest_from (X : Hx C K mg) : ∀ n, CalD P w K mg base (0 + 1 + n) "fewest_from" (VM C) (prevM spm_fewest n)
  | 0 => by
    obtain ⟨f, fd, F, hm⟩ := X.d_fewest_from
    refine cal_of F (F.ok sc_fewest_from (fun vs H Q E h => ?_) (fun cdv A outer s H vs Q E hr h => ?_)) hm (F.bindsN fun _ _ _ _ _ _ us hl => match us, hl with | [_, _, _], _ => rfl)
    · obtain ⟨_, _, _, _, _, _, _, _, _, z, _⟩ := h
      exact False.elim z
    · obtain ⟨_, _, _, _, _, _, _, _, _, z, _⟩ := h
      exact False.elim z
  | n + 1 => by
    obtain ⟨f, fd, F, hm⟩ := X.d_fewest_from
    exact cal_of F (def_ok (spec := spm_fewest n) F sc_fewest_from (len_fewest_from n) (law_fewest_from n) fun cdv A outer s H E hr => der_fewest_from X.fx (prevM spm_fewest n) _ (caln_fewest_from X n) f cdv A outer s H E hr) hm (F.bindsN fun _ _ _ _ _ _ us hl => match us, hl with | [_, _, _], _ => rfl)
theorem cal_fewest_from (X : Hx C K mg) : CalD P w K mg base 12 "fewest_from" (VM C) (spm_fewest 10) := caln_fewest_from X 11
theorem sc_length_of : FnScope ["some"] ["some"] (defScope (top 34)) := ⟨rfl, rfl, rfl, by decide +kernel, rfl, by decide +kernel, by decide +kernel⟩
theorem der_length_of (F : Fx C K mg) (c_least_from : CalD P w K mg base 12 "least_from" (VM C) (spm_least 10)) (c_weighed : CalD P w K mg base 12 "weighed" (V0 C) sp_weighed.up) (f : Addr) (cdv : Value) (A : Around) (outer : List Env) (s : Shared) (H : Hp) (E : XK) (hr : Room 12 (A.deeper (envOfC "length_of" (defScope (top 34)) s.heap.objs.size f cdv))) :
    SXs (cxOf (L2.CX P w) P w K mg base ["some"] "length_of" (defScope (top 34)) f cdv A outer s H E) (VM C) (WxE E) (defBody (top 34)) w_length_of := by
  have tk : Takes (cxOf (L2.CX P w) P w K mg base ["some"] "length_of" (defScope (top 34)) f cdv A outer s H E) (WxE E) := takes_of rfl rfl rfl rfl
  have po := passes_of (X := cxOf (L2.CX P w) P w K mg base ["some"] "length_of" (defScope (top 34)) f cdv A outer s H E) rfl
  have nd := sc_length_of.nd
  exact (sxs_one (sx_ret (ex_op o_sub (ex_call tk c_least_from hr rfl (ax_cons (ex_ty b_tuple F.n_tuple rfl (ax_cons (EX.rd (ex_var 0)) ax_nil)) (ax_cons (ex_call0 tk c_weighed hr rfl (ax_cons (ex_var 0) ax_nil)) (ax_cons ex_dnew ax_nil)))) ex_int)))
theorem len_length_of : ∀ ds θ N Nx, (sp_length_of.pre : Spec MS) ds θ N Nx → ds.length = 1 := by
  intro ds θ N Nx h
  trivial
theorem calm_length_of (X : Hx C K mg) : CalD P w K mg base 13 "length_of" (VM C) sp_length_of.pre := by
  obtain ⟨f, fd, F, hm⟩ := X.d_length_of
  exact cal_of F (def_ok F sc_length_of len_length_of law_length_of fun cdv A outer s H E hr => der_length_of X.fx ((cal_least_from X).mono (by decide)) ((cal_weighed X).mono (by decide)) f cdv A outer s H E hr) hm (F.bindsN fun _ _ _ _ _ _ us hl => match us, hl with | [_], _ => rfl)
theorem cal_length_of (X : Hx C K mg) : CalD P w K mg base 13 "length_of" (V0 C) sp_length_of.up := (calm_length_of X).down
theorem sc_fewest_items : FnScope ["some", "item"] ["some"] (defScope (top 43)) := ⟨rfl, rfl, rfl, by decide +kernel, rfl, by decide +kernel, by decide +kernel⟩
theorem der_fewest_items (F : Fx C K mg) (c_check_set : CalD P w K mg base 12 "check_set" (V0 C) sp_check_set.up) (c_fewest_from : CalD P w K mg base 12 "fewest_from" (VM C) (spm_fewest 10)) (c_greatest_of : CalD P w K mg base 12 "greatest_of" (V0 C) sp_greatest_of.up) (c_numbers_of : CalD P w K mg base 12 "numbers_of" (V0 C) sp_numbers_of.up) (f : Addr) (cdv : Value) (A : Around) (outer : List Env) (s : Shared) (H : Hp) (E : XK) (hr : Room 12 (A.deeper (envOfC "fewest_items" (defScope (top 43)) s.heap.objs.size f cdv))) :
    SXs (cxOf (L2.CX P w) P w K mg base ["some", "item"] "fewest_items" (defScope (top 43)) f cdv A outer s H E) (VM C) (WxE E) (defBody (top 43)) w_fewest_items := by
  have tk : Takes (cxOf (L2.CX P w) P w K mg base ["some", "item"] "fewest_items" (defScope (top 43)) f cdv A outer s H E) (WxE E) := takes_of rfl rfl rfl rfl
  have po := passes_of (X := cxOf (L2.CX P w) P w K mg base ["some", "item"] "fewest_items" (defScope (top 43)) f cdv A outer s H E) rfl
  have nd := sc_fewest_items.nd
  exact (sxs_cons (sx_expr (ex_call0 tk c_check_set hr rfl (ax_cons (ex_var 0) ax_nil))) (sxs_one (sx_ret (ex_call tk c_fewest_from hr rfl (ax_cons (ex_ty b_tuple F.n_tuple rfl (ax_cons (EX.rd (ex_var 0)) ax_nil)) (ax_cons (ex_lc rfl nd [("item", 1)] (ix_list (ex_call0 tk c_greatest_of hr rfl (ax_cons (ex_var 0) ax_nil))) (blkOk_by (by kernel_rfl)) (fun _ _ _ _ _ => (gx_name 1 nd)) (fun _ _ _ _ _ => txs_nil) (fun _ _ _ _ _ => (ex_call0 takes0 c_numbers_of hr rfl (ax_cons (ex_var 1) ax_nil)))) (ax_cons ex_dnew ax_nil)))))))
theorem len_fewest_items : ∀ ds θ N Nx, (sp_fewest_items.pre : Spec MS) ds θ N Nx → ds.length = 1 := by
  intro ds θ N Nx h
  trivial
theorem calm_fewest_items (X : Hx C K mg) : CalD P w K mg base 13 "fewest_items" (VM C) sp_fewest_items.pre := by
  obtain ⟨f, fd, F, hm⟩ := X.d_fewest_items
  exact cal_of F (def_ok F sc_fewest_items len_fewest_items law_fewest_items fun cdv A outer s H E hr => der_fewest_items X.fx ((cal_check_set X).mono (by decide)) ((cal_fewest_from X).mono (by decide)) ((cal_greatest_of X).mono (by decide)) ((cal_numbers_of X).mono (by decide)) f cdv A outer s H E hr) hm (F.bindsN fun _ _ _ _ _ _ us hl => match us, hl with | [_], _ => rfl)
theorem cal_fewest_items (X : Hx C K mg) : CalD P w K mg base 13 "fewest_items" (V0 C) sp_fewest_items.up := (calm_fewest_items X).down
theorem sc_shortest_length : FnScope ["some"] ["some"] (defScope (top 35)) := ⟨rfl, rfl, rfl, by decide +kernel, rfl, by decide +kernel, by decide +kernel⟩
theorem der_shortest_length (F : Fx C K mg) (c_check_set : CalD P w K mg base 13 "check_set" (V0 C) sp_check_set.up) (c_length_of : CalD P w K mg base 13 "length_of" (V0 C) sp_length_of.up) (f : Addr) (cdv : Value) (A : Around) (outer : List Env) (s : Shared) (H : Hp) (E : XK) (hr : Room 13 (A.deeper (envOfC "shortest_length" (defScope (top 35)) s.heap.objs.size f cdv))) :
    SXs (cxOf (L2.CX P w) P w K mg base ["some"] "shortest_length" (defScope (top 35)) f cdv A outer s H E) (V0 C) (WxE E) (defBody (top 35)) w_shortest_length := by
  have tk : Takes (cxOf (L2.CX P w) P w K mg base ["some"] "shortest_length" (defScope (top 35)) f cdv A outer s H E) (WxE E) := takes_of rfl rfl rfl rfl
  have po := passes_of (X := cxOf (L2.CX P w) P w K mg base ["some"] "shortest_length" (defScope (top 35)) f cdv A outer s H E) rfl
  have nd := sc_shortest_length.nd
  exact (sxs_cons (sx_expr (ex_call0 tk c_check_set hr rfl (ax_cons (ex_var 0) ax_nil))) (sxs_one (sx_ret (ex_call0 tk c_length_of hr rfl (ax_cons (ex_var 0) ax_nil)))))
theorem len_shortest_length : ∀ ds θ N Nx, (sp_shortest_length.up : Spec Unit) ds θ N Nx → ds.length = 1 := by
  intro ds θ N Nx h
  trivial
theorem cal_shortest_length (X : Hx C K mg) : CalD P w K mg base 14 "shortest_length" (V0 C) sp_shortest_length.up := by
  obtain ⟨f, fd, F, hm⟩ := X.d_shortest_length
  exact cal_of F (def_ok F sc_shortest_length len_shortest_length law_shortest_length fun cdv A outer s H E hr => der_shortest_length X.fx ((cal_check_set X).mono (by decide)) ((cal_length_of X).mono (by decide)) f cdv A outer s H E hr) hm (F.bindsN fun _ _ _ _ _ _ us hl => match us, hl with | [_], _ => rfl)
theorem sc_is_shortest : FnScope ["text"] ["text"] (defScope (top 41)) := ⟨rfl, rfl, rfl, by decide +kernel, rfl, by decide +kernel, by decide +kernel⟩
theorem der_is_shortest (F : Fx C K mg) (c_check_text : CalD P w K mg base 13 "check_text" (V0 C) sp_check_text.up) (c_length_of : CalD P w K mg base 13 "length_of" (V0 C) sp_length_of.up) (c_set_of : CalD P w K mg base 13 "set_of" (V0 C) sp_set_of.up) (c_items_in : CalD P w K mg base 13 "items_in" (V0 C) sp_items_in.up) (f : Addr) (cdv : Value) (A : Around) (outer : List Env) (s : Shared) (H : Hp) (E : XK) (hr : Room 13 (A.deeper (envOfC "is_shortest" (defScope (top 41)) s.heap.objs.size f cdv))) :
    SXs (cxOf (L2.CX P w) P w K mg base ["text"] "is_shortest" (defScope (top 41)) f cdv A outer s H E) (V0 C) (WxE E) (defBody (top 41)) w_is_shortest := by
  have tk : Takes (cxOf (L2.CX P w) P w K mg base ["text"] "is_shortest" (defScope (top 41)) f cdv A outer s H E) (WxE E) := takes_of rfl rfl rfl rfl
  have po := passes_of (X := cxOf (L2.CX P w) P w K mg base ["text"] "is_shortest" (defScope (top 41)) f cdv A outer s H E) rfl
  have nd := sc_is_shortest.nd
  exact (sxs_cons (sx_expr (ex_call0 tk c_check_text hr rfl (ax_cons (ex_var 0) ax_nil))) (sxs_one (sx_ret (ex_cmp (o_eq hr.units) (ex_blt b_len F.n_len rfl (ax_cons (EX.rd (ex_var 0)) ax_nil)) (ex_call0 tk c_length_of hr rfl (ax_cons (ex_call0 tk c_set_of hr rfl (ax_cons (ex_call0 tk c_items_in hr rfl (ax_cons (ex_var 0) ax_nil)) ax_nil)) ax_nil))))))
theorem len_is_shortest : ∀ ds θ N Nx, (sp_is_shortest.up : Spec Unit) ds θ N Nx → ds.length = 1 := by
  intro ds θ N Nx h
  trivial
theorem cal_is_shortest (X : Hx C K mg) : CalD P w K mg base 14 "is_shortest" (V0 C) sp_is_shortest.up := by
  obtain ⟨f, fd, F, hm⟩ := X.d_is_shortest
  exact cal_of F (def_ok F sc_is_shortest len_is_shortest law_is_shortest fun cdv A outer s H E hr => der_is_shortest X.fx ((cal_check_text X).mono (by decide)) ((cal_length_of X).mono (by decide)) ((cal_set_of X).mono (by decide)) ((cal_items_in X).mono (by decide)) f cdv A outer s H E hr) hm (F.bindsN fun _ _ _ _ _ _ us hl => match us, hl with | [_], _ => rfl)
theorem sc_shorter_by : FnScope ["text"] ["text"] (defScope (top 44)) := ⟨rfl, rfl, rfl, by decide +kernel, rfl, by decide +kernel, by decide +kernel⟩
theorem der_shorter_by (F : Fx C K mg) (c_check_text : CalD P w K mg base 13 "check_text" (V0 C) sp_check_text.up) (c_length_of : CalD P w K mg base 13 "length_of" (V0 C) sp_length_of.up) (c_set_of : CalD P w K mg base 13 "set_of" (V0 C) sp_set_of.up) (c_items_in : CalD P w K mg base 13 "items_in" (V0 C) sp_items_in.up) (f : Addr) (cdv : Value) (A : Around) (outer : List Env) (s : Shared) (H : Hp) (E : XK) (hr : Room 13 (A.deeper (envOfC "shorter_by" (defScope (top 44)) s.heap.objs.size f cdv))) :
    SXs (cxOf (L2.CX P w) P w K mg base ["text"] "shorter_by" (defScope (top 44)) f cdv A outer s H E) (V0 C) (WxE E) (defBody (top 44)) w_shorter_by := by
  have tk : Takes (cxOf (L2.CX P w) P w K mg base ["text"] "shorter_by" (defScope (top 44)) f cdv A outer s H E) (WxE E) := takes_of rfl rfl rfl rfl
  have po := passes_of (X := cxOf (L2.CX P w) P w K mg base ["text"] "shorter_by" (defScope (top 44)) f cdv A outer s H E) rfl
  have nd := sc_shorter_by.nd
  exact (sxs_cons (sx_expr (ex_call0 tk c_check_text hr rfl (ax_cons (ex_var 0) ax_nil))) (sxs_one (sx_ret (ex_op o_sub (ex_blt b_len F.n_len rfl (ax_cons (EX.rd (ex_var 0)) ax_nil)) (ex_call0 tk c_length_of hr rfl (ax_cons (ex_call0 tk c_set_of hr rfl (ax_cons (ex_call0 tk c_items_in hr rfl (ax_cons (ex_var 0) ax_nil)) ax_nil)) ax_nil))))))
theorem len_shorter_by : ∀ ds θ N Nx, (sp_shorter_by.up : Spec Unit) ds θ N Nx → ds.length = 1 := by
  intro ds θ N Nx h
  trivial
theorem cal_shorter_by (X : Hx C K mg) : CalD P w K mg base 14 "shorter_by" (V0 C) sp_shorter_by.up := by
  obtain ⟨f, fd, F, hm⟩ := X.d_shorter_by
  exact cal_of F (def_ok F sc_shorter_by len_shorter_by law_shorter_by fun cdv A outer s H E hr => der_shorter_by X.fx ((cal_check_text X).mono (by decide)) ((cal_length_of X).mono (by decide)) ((cal_set_of X).mono (by decide)) ((cal_items_in X).mono (by decide)) f cdv A outer s H E hr) hm (F.bindsN fun _ _ _ _ _ _ us hl => match us, hl with | [_], _ => rfl)
theorem sc_covers_from : FnScope ["left", "every", "known", "found", "item", "own", "length", "rest", "one", "tail"] ["left", "every", "known"] (defScope (top 36)) := ⟨rfl, rfl, rfl, by decide +kernel, rfl, by decide +kernel, by decide +kernel⟩
theorem der_covers_from (F : Fx C K mg) (sp : Spec MS) (lv : Nat) (c_least_from : CalD P w K mg base lv "least_from" (VM C) (spm_least 10)) (c_covers_from : CalD P w K mg base lv "covers_from" (VM C) sp) (f : Addr) (cdv : Value) (A : Around) (outer : List Env) (s : Shared) (H : Hp) (E : XK) (hr : Room lv (A.deeper (envOfC "covers_from" (defScope (top 36)) s.heap.objs.size f cdv))) :
    SXs (cxOf (L2.CX P w) P w K mg base ["left", "every", "known", "found", "item", "own", "length", "rest", "one", "tail"] "covers_from" (defScope (top 36)) f cdv A outer s H E) (VM C) (WxE E) (defBody (top 36)) (w_covers_from sp) := by
  have tk : Takes (cxOf (L2.CX P w) P w K mg base ["left", "every", "known", "found", "item", "own", "length", "rest", "one", "tail"] "covers_from" (defScope (top 36)) f cdv A outer s H E) (WxE E) := takes_of rfl rfl rfl rfl
  have po := passes_of (X := cxOf (L2.CX P w) P w K mg base ["left", "every", "known", "found", "item", "own", "length", "rest", "one", "tail"] "covers_from" (defScope (top 36)) f cdv A outer s H E) rfl
  have nd := sc_covers_from.nd
  exact (sxs_cons (sx_if (tx_cmp (o_eq hr.units) (ex_var 0) (ex_tup ax_nil)) (sxs_one (sx_ret (ex_lst (ax_cons (ex_tup ax_nil) ax_nil)))) sxs_nil) (sxs_cons (sx_new 3 nd) (sxs_cons (sx_for po rfl (ix_list (ex_var 1)) (gx_tup rfl (gxs_cons 4 nd (gxs_cons 5 nd (gxs_cons 6 nd gxs_nil)))) (sxs_one (sx_if (tx_cmp (o_in hr.u65) (ex_ix (ex_var 0) ex_int) (ex_var 5)) (sxs_cons (sx_set 7 nd (ex_ty b_tuple F.n_tuple rfl (ax_cons (EX.rd (ex_lc rfl nd [("one", 8)] (ix_tuple (ex_var 0)) (blkOk_by (by kernel_rfl)) (fun _ _ _ _ _ => (gx_name 8 nd)) (fun _ _ _ _ _ => (txs_one (tx_cmp (o_ni hr.u65) (ex_var 8) (ex_var 5)))) (fun _ _ _ _ _ => (ex_var 8)))) ax_nil))) (sxs_one (sx_if (tx_cmp (o_eq hr.units) (ex_op o_add (ex_var 6) (ex_call tk c_least_from hr rfl (ax_cons (ex_var 7) (ax_cons (ex_var 1) (ax_cons (ex_var 2) ax_nil))))) (ex_call tk c_least_from hr rfl (ax_cons (ex_var 0) (ax_cons (ex_var 1) (ax_cons (ex_var 2) ax_nil))))) (sxs_one (sx_extend 3 nd (ex_lc rfl nd [("tail", 9)] (ix_list (ex_call tk c_covers_from hr rfl (ax_cons (ex_var 7) (ax_cons (ex_var 1) (ax_cons (ex_var 2) ax_nil))))) (blkOk_by (by kernel_rfl)) (fun _ _ _ _ _ => (gx_name 9 nd)) (fun _ _ _ _ _ => txs_nil) (fun _ _ _ _ _ => (ex_ty b_tuple F.n_tuple rfl (ax_cons (EX.rd (ex_blt b_sortT F.n_sorted rfl (ax_cons (EX.rd (ex_op o_add (ex_tup (ax_cons (ex_var 4) ax_nil)) (ex_var 9))) ax_nil))) ax_nil)))))) sxs_nil))) sxs_nil))) (sxs_frz 3 (sxs_one (sx_ret (ex_sortSetC hr.u65 rfl F.n_sorted F.n_set rfl rfl (ex_var 3))))))))
theorem len_covers_from : ∀ k ds θ N Nx, (spm_covers k : Spec MS) ds θ N Nx → ds.length = 3 := by
  intro k ds θ N Nx h
  trivial
theorem caln_covers_from (X : Hx C K mg) : ∀ n, CalD P w K mg base (12 + 1 + n) "covers_from" (VM C) (prevM spm_covers n)
  | 0 => by
    obtain ⟨f, fd, F, hm⟩ := X.d_covers_from
    refine cal_of F (F.ok sc_covers_from (fun vs H Q E h => ?_) (fun cdv A outer s H vs Q E hr h => ?_)) hm (F.bindsN fun _ _ _ _ _ _ us hl => match us, hl with | [_, _, _], _ => rfl)
    · obtain ⟨_, _, _, _, _, _, _, _, _, z, _⟩ := h
      exact False.elim z
    · obtain ⟨_, _, _, _, _, _, _, _, _, z, _⟩ := h
      exact False.elim z
  | n + 1 => by
    obtain ⟨f, fd, F, hm⟩ := X.d_covers_from
    exact cal_of F (def_ok (spec := spm_covers n) F sc_covers_from (len_covers_from n) (law_covers_from n) fun cdv A outer s H E hr => der_covers_from X.fx (prevM spm_covers n) _ ((cal_least_from X).mono (by omega)) (caln_covers_from X n) f cdv A outer s H E hr) hm (F.bindsN fun _ _ _ _ _ _ us hl => match us, hl with | [_, _, _], _ => rfl)
theorem cal_covers_from (X : Hx C K mg) : CalD P w K mg base 24 "covers_from" (VM C) (spm_covers 10) := caln_covers_from X 11
theorem sc_covers_of : FnScope ["some"] ["some"] (defScope (top 37)) := ⟨rfl, rfl, rfl, by decide +kernel, rfl, by decide +kernel, by decide +kernel⟩
theorem der_covers_of (F : Fx C K mg) (c_covers_from : CalD P w K mg base 24 "covers_from" (VM C) (spm_covers 10)) (c_weighed : CalD P w K mg base 24 "weighed" (V0 C) sp_weighed.up) (f : Addr) (cdv : Value) (A : Around) (outer : List Env) (s : Shared) (H : Hp) (E : XK) (hr : Room 24 (A.deeper (envOfC "covers_of" (defScope (top 37)) s.heap.objs.size f cdv))) :
    SXs (cxOf (L2.CX P w) P w K mg base ["some"] "covers_of" (defScope (top 37)) f cdv A outer s H E) (VM C) (WxE E) (defBody (top 37)) w_covers_of := by
  have tk : Takes (cxOf (L2.CX P w) P w K mg base ["some"] "covers_of" (defScope (top 37)) f cdv A outer s H E) (WxE E) := takes_of rfl rfl rfl rfl
  have po := passes_of (X := cxOf (L2.CX P w) P w K mg base ["some"] "covers_of" (defScope (top 37)) f cdv A outer s H E) rfl
  have nd := sc_covers_of.nd
  exact (sxs_one (sx_ret (ex_call tk c_covers_from hr rfl (ax_cons (ex_ty b_tuple F.n_tuple rfl (ax_cons (EX.rd (ex_var 0)) ax_nil)) (ax_cons (ex_call0 tk c_weighed hr rfl (ax_cons (ex_var 0) ax_nil)) (ax_cons ex_dnew ax_nil))))))
theorem len_covers_of : ∀ ds θ N Nx, (sp_covers_of.pre : Spec MS) ds θ N Nx → ds.length = 1 := by
  intro ds θ N Nx h
  trivial
theorem calm_covers_of (X : Hx C K mg) : CalD P w K mg base 25 "covers_of" (VM C) sp_covers_of.pre := by
  obtain ⟨f, fd, F, hm⟩ := X.d_covers_of
  exact cal_of F (def_ok F sc_covers_of len_covers_of law_covers_of fun cdv A outer s H E hr => der_covers_of X.fx ((cal_covers_from X).mono (by decide)) ((cal_weighed X).mono (by decide)) f cdv A outer s H E hr) hm (F.bindsN fun _ _ _ _ _ _ us hl => match us, hl with | [_], _ => rfl)
theorem cal_covers_of (X : Hx C K mg) : CalD P w K mg base 25 "covers_of" (V0 C) sp_covers_of.up := (calm_covers_of X).down
theorem sc_shortest_covers : FnScope ["some", "cover"] ["some"] (defScope (top 38)) := ⟨rfl, rfl, rfl, by decide +kernel, rfl, by decide +kernel, by decide +kernel⟩
theorem der_shortest_covers (F : Fx C K mg) (c_check_set : CalD P w K mg base 25 "check_set" (V0 C) sp_check_set.up) (c_covers_of : CalD P w K mg base 25 "covers_of" (V0 C) sp_covers_of.up) (f : Addr) (cdv : Value) (A : Around) (outer : List Env) (s : Shared) (H : Hp) (E : XK) (hr : Room 25 (A.deeper (envOfC "shortest_covers" (defScope (top 38)) s.heap.objs.size f cdv))) :
    SXs (cxOf (L2.CX P w) P w K mg base ["some", "cover"] "shortest_covers" (defScope (top 38)) f cdv A outer s H E) (V0 C) (WxE E) (defBody (top 38)) w_shortest_covers := by
  have tk : Takes (cxOf (L2.CX P w) P w K mg base ["some", "cover"] "shortest_covers" (defScope (top 38)) f cdv A outer s H E) (WxE E) := takes_of rfl rfl rfl rfl
  have po := passes_of (X := cxOf (L2.CX P w) P w K mg base ["some", "cover"] "shortest_covers" (defScope (top 38)) f cdv A outer s H E) rfl
  have nd := sc_shortest_covers.nd
  exact (sxs_cons (sx_expr (ex_call0 tk c_check_set hr rfl (ax_cons (ex_var 0) ax_nil))) (sxs_one (sx_ret (ex_lc rfl nd [("cover", 1)] (ix_list (ex_call0 tk c_covers_of hr rfl (ax_cons (ex_var 0) ax_nil))) (blkOk_by (by kernel_rfl)) (fun _ _ _ _ _ => (gx_name 1 nd)) (fun _ _ _ _ _ => txs_nil) (fun _ _ _ _ _ => (ex_ty b_list F.n_list rfl (ax_cons (EX.rd (ex_var 1)) ax_nil)))))))
theorem len_shortest_covers : ∀ ds θ N Nx, (sp_shortest_covers.up : Spec Unit) ds θ N Nx → ds.length = 1 := by
  intro ds θ N Nx h
  trivial
theorem cal_shortest_covers (X : Hx C K mg) : CalD P w K mg base 26 "shortest_covers" (V0 C) sp_shortest_covers.up := by
  obtain ⟨f, fd, F, hm⟩ := X.d_shortest_covers
  exact cal_of F (def_ok F sc_shortest_covers len_shortest_covers law_shortest_covers fun cdv A outer s H E hr => der_shortest_covers X.fx ((cal_check_set X).mono (by decide)) ((cal_covers_of X).mono (by decide)) f cdv A outer s H E hr) hm (F.bindsN fun _ _ _ _ _ _ us hl => match us, hl with | [_], _ => rfl)
theorem sc_count_shortest : FnScope ["some", "found", "cover", "ways", "k"] ["some"] (defScope (top 39)) := ⟨rfl, rfl, rfl, by decide +kernel, rfl, by decide +kernel, by decide +kernel⟩
theorem der_count_shortest (F : Fx C K mg) (c_check_set : CalD P w K mg base 25 "check_set" (V0 C) sp_check_set.up) (c_covers_of : CalD P w K mg base 25 "covers_of" (V0 C) sp_covers_of.up) (f : Addr) (cdv : Value) (A : Around) (outer : List Env) (s : Shared) (H : Hp) (E : XK) (hr : Room 25 (A.deeper (envOfC "count_shortest" (defScope (top 39)) s.heap.objs.size f cdv))) :
    SXs (cxOf (L2.CX P w) P w K mg base ["some", "found", "cover", "ways", "k"] "count_shortest" (defScope (top 39)) f cdv A outer s H E) (V0 C) (WxE E) (defBody (top 39)) w_count_shortest := by
  have tk : Takes (cxOf (L2.CX P w) P w K mg base ["some", "found", "cover", "ways", "k"] "count_shortest" (defScope (top 39)) f cdv A outer s H E) (WxE E) := takes_of rfl rfl rfl rfl
  have po := passes_of (X := cxOf (L2.CX P w) P w K mg base ["some", "found", "cover", "ways", "k"] "count_shortest" (defScope (top 39)) f cdv A outer s H E) rfl
  have nd := sc_count_shortest.nd
  exact (sxs_cons (sx_expr (ex_call0 tk c_check_set hr rfl (ax_cons (ex_var 0) ax_nil))) (sxs_cons (sx_set 1 nd ex_int) (sxs_cons (sx_for po rfl (ix_list (ex_call0 tk c_covers_of hr rfl (ax_cons (ex_var 0) ax_nil))) (gx_name 2 nd) (sxs_cons (sx_set 3 nd ex_int) (sxs_cons (sx_for po rfl (ix_range1 F.n_range rfl (ax_cons (EX.rd (ex_blt b_len F.n_len rfl (ax_cons (EX.rd (ex_var 2)) ax_nil))) ax_nil)) (gx_name 4 nd) (sxs_one (sx_aug 3 nd o_imul (ex_op o_add (ex_var 4) ex_int)))) (sxs_one (sx_aug 1 nd o_iadd (ex_var 3)))))) (sxs_one (sx_ret (ex_var 1))))))
theorem len_count_shortest : ∀ ds θ N Nx, (sp_count_shortest.up : Spec Unit) ds θ N Nx → ds.length = 1 := by
  intro ds θ N Nx h
  trivial
theorem cal_count_shortest (X : Hx C K mg) : CalD P w K mg base 26 "count_shortest" (V0 C) sp_count_shortest.up := by
  obtain ⟨f, fd, F, hm⟩ := X.d_count_shortest
  exact cal_of F (def_ok F sc_count_shortest len_count_shortest law_count_shortest fun cdv A outer s H E hr => der_count_shortest X.fx ((cal_check_set X).mono (by decide)) ((cal_covers_of X).mono (by decide)) f cdv A outer s H E hr) hm (F.bindsN fun _ _ _ _ _ _ us hl => match us, hl with | [_], _ => rfl)
theorem sc_first_shortest : FnScope ["some", "item"] ["some"] (defScope (top 40)) := ⟨rfl, rfl, rfl, by decide +kernel, rfl, by decide +kernel, by decide +kernel⟩
theorem der_first_shortest (F : Fx C K mg) (c_check_set : CalD P w K mg base 25 "check_set" (V0 C) sp_check_set.up) (c_covers_of : CalD P w K mg base 25 "covers_of" (V0 C) sp_covers_of.up) (c_text_of : CalD P w K mg base 25 "text_of" (V0 C) sp_text_of.up) (f : Addr) (cdv : Value) (A : Around) (outer : List Env) (s : Shared) (H : Hp) (E : XK) (hr : Room 25 (A.deeper (envOfC "first_shortest" (defScope (top 40)) s.heap.objs.size f cdv))) :
    SXs (cxOf (L2.CX P w) P w K mg base ["some", "item"] "first_shortest" (defScope (top 40)) f cdv A outer s H E) (V0 C) (WxE E) (defBody (top 40)) w_first_shortest := by
  have tk : Takes (cxOf (L2.CX P w) P w K mg base ["some", "item"] "first_shortest" (defScope (top 40)) f cdv A outer s H E) (WxE E) := takes_of rfl rfl rfl rfl
  have po := passes_of (X := cxOf (L2.CX P w) P w K mg base ["some", "item"] "first_shortest" (defScope (top 40)) f cdv A outer s H E) rfl
  have nd := sc_first_shortest.nd
  exact (sxs_cons (sx_expr (ex_call0 tk c_check_set hr rfl (ax_cons (ex_var 0) ax_nil))) (sxs_one (sx_ret (ex_join ex_str (ex_lc rfl nd [("item", 1)] (ix_tuple (ex_ix (ex_call0 tk c_covers_of hr rfl (ax_cons (ex_var 0) ax_nil)) ex_int)) (blkOk_by (by kernel_rfl)) (fun _ _ _ _ _ => (gx_name 1 nd)) (fun _ _ _ _ _ => txs_nil) (fun _ _ _ _ _ => (ex_call0 takes0 c_text_of hr rfl (ax_cons (ex_var 1) ax_nil))))))))
theorem len_first_shortest : ∀ ds θ N Nx, (sp_first_shortest.up : Spec Unit) ds θ N Nx → ds.length = 1 := by
  intro ds θ N Nx h
  trivial
theorem cal_first_shortest (X : Hx C K mg) : CalD P w K mg base 26 "first_shortest" (V0 C) sp_first_shortest.up := by
  obtain ⟨f, fd, F, hm⟩ := X.d_first_shortest
  exact cal_of F (def_ok F sc_first_shortest len_first_shortest law_first_shortest fun cdv A outer s H E hr => der_first_shortest X.fx ((cal_check_set X).mono (by decide)) ((cal_covers_of X).mono (by decide)) ((cal_text_of X).mono (by decide)) f cdv A outer s H E hr) hm (F.bindsN fun _ _ _ _ _ _ us hl => match us, hl with | [_], _ => rfl)
theorem sc_law : FnScope ["_law_script", "_law_draws", "_law_some", "_law_covers", "_law_cover", "_law_left", "_law_order", "_law_text", "_law_item", "_law_more", "_law_sums", "_law_place", "_law_few", "_law_one"] ["_law_script"] (defScope (top 59)) := ⟨rfl, rfl, rfl, by decide +kernel, rfl, by decide +kernel, by decide +kernel⟩
theorem der_law (F : Fx C K mg) (c__law_start : CalD P w K mg base 26 "_law_start" (VD K C) spd_start) (c__law_set : CalD P w K mg base 26 "_law_set" (VD K C) spd_set) (c_shortest_covers : CalD P w K mg base 26 "shortest_covers" (V0 C) sp_shortest_covers.up) (c__law_pick : CalD P w K mg base 26 "_law_pick" (VD K C) spd_pick) (c_item_text : CalD P w K mg base 26 "item_text" (V0 C) sp_item_text.up) (c_is_shortest : CalD P w K mg base 26 "is_shortest" (V0 C) sp_is_shortest.up) (c_parse : CalD P w K mg base 26 "parse" (V0 C) sp_parse.up) (c_shortest_length : CalD P w K mg base 26 "shortest_length" (V0 C) sp_shortest_length.up) (c_items : CalD P w K mg base 26 "items" (V0 C) sp_items.up) (c_pruned : CalD P w K mg base 26 "pruned" (V0 C) sp_pruned.up) (c_mean_same : CalD P w K mg base 26 "mean_same" (V0 C) sp_mean_same.up) (c_first_shortest : CalD P w K mg base 26 "first_shortest" (V0 C) sp_first_shortest.up) (c_items_within : CalD P w K mg base 26 "items_within" (V0 C) sp_items_within.up) (c_item_numbers : CalD P w K mg base 26 "item_numbers" (V0 C) sp_item_numbers.up) (c_with_item : CalD P w K mg base 26 "with_item" (V0 C) sp_with_item.up) (c__law_inside : CalD P w K mg base 26 "_law_inside" (V0 C) sp__law_inside.up) (c_shorter_by : CalD P w K mg base 26 "shorter_by" (V0 C) sp_shorter_by.up) (c_count_shortest : CalD P w K mg base 26 "count_shortest" (V0 C) sp_count_shortest.up) (c__law_draw : CalD P w K mg base 26 "_law_draw" (VD K C) spd_draw) (c_without_item : CalD P w K mg base 26 "without_item" (V0 C) sp_without_item.up) (c_contains : CalD P w K mg base 26 "contains" (V0 C) sp_contains.up) (c_fewest_items : CalD P w K mg base 26 "fewest_items" (V0 C) sp_fewest_items.up) (f : Addr) (cdv : Value) (A : Around) (outer : List Env) (s : Shared) (H : Hp) (E : XK) (hr : Room 26 (A.deeper (envOfC "law" (defScope (top 59)) s.heap.objs.size f cdv))) :
    SXs (cxOf (L2.CX P w) P w K mg base ["_law_script", "_law_draws", "_law_some", "_law_covers", "_law_cover", "_law_left", "_law_order", "_law_text", "_law_item", "_law_more", "_law_sums", "_law_place", "_law_few", "_law_one"] "law" (defScope (top 59)) f cdv A outer s H E) (VD K C) (WxE E) (defBody (top 59)) w_law := by
  have tk : Takes (cxOf (L2.CX P w) P w K mg base ["_law_script", "_law_draws", "_law_some", "_law_covers", "_law_cover", "_law_left", "_law_order", "_law_text", "_law_item", "_law_more", "_law_sums", "_law_place", "_law_few", "_law_one"] "law" (defScope (top 59)) f cdv A outer s H E) (WxE E) := takes_of rfl rfl rfl rfl
  have po := passes_of (X := cxOf (L2.CX P w) P w K mg base ["_law_script", "_law_draws", "_law_some", "_law_covers", "_law_cover", "_law_left", "_law_order", "_law_text", "_law_item", "_law_more", "_law_sums", "_law_place", "_law_few", "_law_one"] "law" (defScope (top 59)) f cdv A outer s H E) rfl
  have nd := sc_law.nd
  exact (sxs_cons (sx_set 1 nd (ex_call tk c__law_start hr rfl (ax_cons (ex_var 0) ax_nil))) (sxs_cons (sx_set 2 nd (ex_call tk c__law_set hr rfl (ax_cons (ex_var 1) (ax_cons ex_int ax_nil)))) (sxs_cons (sx_set 3 nd (ex_call0 tk c_shortest_covers hr rfl (ax_cons (ex_var 2) ax_nil))) (sxs_cons (sx_set 4 nd (ex_call tk c__law_pick hr rfl (ax_cons (ex_var 1) (ax_cons (ex_var 3) ax_nil)))) (sxs_cons (sx_newCopy 5 F.n_list rfl nd (ex_var 4)) (sxs_cons (sx_new 6 nd) (sxs_cons (sx_while po (tx_cmp (o_ne hr.units) (ex_own 5) (ex_lst ax_nil)) (sxs_cons (sx_append 6 (ex_pickO 1 5 tk c__law_pick hr rfl)) (sxs_one (sx_remove 5 hr.u65 (ex_ix (ex_own 6) (ex_neg ex_int)))))) (sxs_frz 6 (sxs_cons (sx_set 7 nd (ex_join ex_str (ex_lc rfl nd [("_law_item", 8)] (ix_list (ex_var 6)) (blkOk_by (by kernel_rfl)) (fun _ _ _ _ _ => (gx_name 8 nd)) (fun _ _ _ _ _ => txs_nil) (fun _ _ _ _ _ => (ex_call0 takes0 c_item_text hr rfl (ax_cons (ex_var 8) ax_nil)))))) (sxs_cons (sx_if (TW.tx (tw_or (tx_cmp o_isN (ex_call0 tk c_is_shortest hr rfl (ax_cons (ex_var 7) ax_nil)) ex_bl) (tw_or (tx_cmp (o_ne hr.units) (ex_call0 tk c_parse hr rfl (ax_cons (ex_var 7) ax_nil)) (ex_var 2)) (tw_or (tx_cmp (o_ne hr.units) (ex_blt b_len F.n_len rfl (ax_cons (EX.rd (ex_var 7)) ax_nil)) (ex_call0 tk c_shortest_length hr rfl (ax_cons (ex_var 2) ax_nil))) (tw_or1 (tx_cmp (o_ne hr.units) (ex_call0 tk c_items hr rfl (ax_cons (ex_var 7) ax_nil)) (ex_var 6))))))) (sxs_one (sx_ret ex_bl)) sxs_nil) (sxs_cons (sx_if (TW.tx (tw_or (tx_cmp (o_ne hr.units) (ex_call0 tk c_pruned hr rfl (ax_cons (ex_var 7) ax_nil)) (ex_var 7)) (tw_or (tx_cmp o_isN (ex_call0 tk c_mean_same hr rfl (ax_cons (ex_var 7) (ax_cons (ex_call0 tk c_first_shortest hr rfl (ax_cons (ex_var 2) ax_nil)) ax_nil))) ex_bl) (tw_or1 (tx_cmp (o_ne hr.units) (ex_blt b_sorted F.n_sorted rfl (ax_cons (EX.rd (ex_call0 tk c_items hr rfl (ax_cons (ex_var 7) ax_nil))) ax_nil)) (ex_var 4)))))) (sxs_one (sx_ret ex_bl)) sxs_nil) (sxs_cons (sx_for po rfl (ix_list (ex_var 4)) (gx_name 8 nd) (sxs_one (sx_if (TW.tx (tw_or (tx_cmp (o_ni hr.u65) (ex_var 8) (ex_call0 tk c_items_within hr rfl (ax_cons (ex_var 2) ax_nil))) (tw_or1 (tx_cmp (o_ne hr.units) (ex_lc rfl nd [("_law_one", 13)] (ix_list (ex_call0 tk c_item_numbers hr rfl (ax_cons (ex_var 8) ax_nil))) (blkOk_by (by kernel_rfl)) (fun _ _ _ _ _ => (gx_name 13 nd)) (fun _ _ _ _ _ => (txs_one (tx_cmp (o_ni hr.u65) (ex_var 13) (ex_var 2)))) (fun _ _ _ _ _ => (ex_var 13))) (ex_lst ax_nil))))) (sxs_one (sx_ret ex_bl)) sxs_nil))) (sxs_cons (sx_set 9 nd (ex_call0 tk c_with_item hr rfl (ax_cons (ex_var 7) (ax_cons (ex_call tk c__law_pick hr rfl (ax_cons (ex_var 1) (ax_cons (ex_call0 tk c__law_inside hr rfl (ax_cons (ex_var 2) ax_nil)) ax_nil))) ax_nil)))) (sxs_cons (sx_if (TW.tx (tw_or (tx_cmp o_isN (ex_call0 tk c_is_shortest hr rfl (ax_cons (ex_var 9) ax_nil)) ex_bl) (tw_or (tx_cmp (o_ne hr.units) (ex_call0 tk c_parse hr rfl (ax_cons (ex_var 9) ax_nil)) (ex_var 2)) (tw_or1 (tx_cmp (o_ne hr.units) (ex_call0 tk c_shorter_by hr rfl (ax_cons (ex_var 9) ax_nil)) (ex_op o_sub (ex_blt b_len F.n_len rfl (ax_cons (EX.rd (ex_var 9)) ax_nil)) (ex_blt b_len F.n_len rfl (ax_cons (EX.rd (ex_var 7)) ax_nil)))))))) (sxs_one (sx_ret ex_bl)) sxs_nil) (sxs_cons (sx_if (TW.tx (tw_or (tx_cmp o_lt (ex_call0 tk c_count_shortest hr rfl (ax_cons (ex_var 2) ax_nil)) (ex_blt b_len F.n_len rfl (ax_cons (EX.rd (ex_var 3)) ax_nil))) (tw_or (tx_cmp (o_ne hr.units) (ex_var 3) (ex_sortLL hr.u65 F.n_sorted rfl (ex_var 3))) (tw_or1 (tx_cmp (o_ne hr.units) (ex_lenNk hr.u65 rfl F.n_len F.n_set rfl rfl (ex_lc rfl nd [("_law_one", 13)] (ix_list (ex_var 3)) (blkOk_by (by kernel_rfl)) (fun _ _ _ _ _ => (gx_name 13 nd)) (fun _ _ _ _ _ => txs_nil) (fun _ _ _ _ _ => (ex_ty b_tuple F.n_tuple rfl (ax_cons (EX.rd (ex_var 13)) ax_nil))))) (ex_blt b_len F.n_len rfl (ax_cons (EX.rd (ex_var 3)) ax_nil))))))) (sxs_one (sx_ret ex_bl)) sxs_nil) (sxs_cons (sx_setLc 10 rfl nd [("_law_one", 13)] (ix_list (ex_var 3)) (blkOk_by (by kernel_rfl)) (fun _ _ _ _ _ => (gx_name 13 nd)) (fun _ _ _ _ _ => txs_nil) (fun _ _ _ _ _ => (ex_blt (b_sum rfl) F.n_sum rfl (ax_cons (EX.rd (ex_lc rfl nd [("_law_item", 8)] (ix_list (ex_var 13)) (blkOk_by (by kernel_rfl)) (fun _ _ _ _ _ => (gx_name 8 nd)) (fun _ _ _ _ _ => txs_nil) (fun _ _ _ _ _ => (ex_op o_add (ex_blt b_len F.n_len rfl (ax_cons (EX.rd (ex_call0 takes0 c_item_text hr rfl (ax_cons (ex_var 8) ax_nil))) ax_nil)) ex_int)))) ax_nil))) (sw_true rfl rfl rfl (by decide +kernel))) (sxs_cons (sx_if (tx_cmp (o_ne hr.units) (ex_var 10) (ex_op o_mul (ex_lst (ax_cons (ex_op o_add (ex_call0 tk c_shortest_length hr rfl (ax_cons (ex_var 2) ax_nil)) ex_int) ax_nil)) (ex_blt b_len F.n_len rfl (ax_cons (EX.rd (ex_var 3)) ax_nil)))) (sxs_one (sx_ret ex_bl)) sxs_nil) (sxs_cons (sx_if (tx_cmp o_gt (ex_blt b_len F.n_len rfl (ax_cons (EX.rd (ex_var 4)) ax_nil)) ex_int) (sxs_cons (sx_set 11 nd (ex_call tk c__law_draw hr rfl (ax_cons (ex_var 1) (ax_cons (ex_blt b_len F.n_len rfl (ax_cons (EX.rd (ex_var 6)) ax_nil)) ax_nil)))) (sxs_cons (sx_set 12 nd (ex_call0 tk c_without_item hr rfl (ax_cons (ex_var 7) (ax_cons (ex_var 11) ax_nil)))) (sxs_one (sx_if (TW.tx (tw_or (tx_cmp (o_eq hr.units) (ex_call0 tk c_parse hr rfl (ax_cons (ex_var 12) ax_nil)) (ex_var 2)) (tw_or1 (tx_cmp o_isN (ex_call0 tk c_contains hr rfl (ax_cons (ex_var 2) (ax_cons (ex_var 12) ax_nil))) ex_bl)))) (sxs_one (sx_ret ex_bl)) sxs_nil)))) sxs_nil) (sxs_one (sx_ret (ex_and (ex_cmp (o_eq hr.units) (ex_call0 tk c_first_shortest hr rfl (ax_cons (ex_var 2) ax_nil)) (ex_join ex_str (ex_lc rfl nd [("_law_item", 8)] (ix_list (ex_ix (ex_var 3) ex_int)) (blkOk_by (by kernel_rfl)) (fun _ _ _ _ _ => (gx_name 8 nd)) (fun _ _ _ _ _ => txs_nil) (fun _ _ _ _ _ => (ex_call0 takes0 c_item_text hr rfl (ax_cons (ex_var 8) ax_nil)))))) (ex_one (ex_cmp o_le (ex_call0 tk c_fewest_items hr rfl (ax_cons (ex_var 2) ax_nil)) (ex_blt (b_min rfl) F.n_min rfl (ax_cons (EX.rd (ex_lc rfl nd [("_law_one", 13)] (ix_list (ex_var 3)) (blkOk_by (by kernel_rfl)) (fun _ _ _ _ _ => (gx_name 13 nd)) (fun _ _ _ _ _ => txs_nil) (fun _ _ _ _ _ => (ex_blt b_len F.n_len rfl (ax_cons (EX.rd (ex_var 13)) ax_nil))))) ax_nil)))))))))))))))))))))))))
theorem len_law : ∀ ds θ N Nx, (spd_law : Spec DrawSt) ds θ N Nx → ds.length = 1 := by
  intro ds θ N Nx h
  trivial
theorem cal_law (X : Hx C K mg) : CalD P w K mg base 27 "law" (VD K C) spd_law := by
  obtain ⟨f, fd, F, hm⟩ := X.d_law
  exact cal_of F (def_ok F sc_law len_law law_k11 fun cdv A outer s H E hr => der_law X.fx ((cal__law_start X).mono (by decide)) ((cal__law_set X).mono (by decide)) ((cal_shortest_covers X).mono (by decide)) ((cal__law_pick X).mono (by decide)) ((cal_item_text X).mono (by decide)) ((cal_is_shortest X).mono (by decide)) ((cal_parse X).mono (by decide)) ((cal_shortest_length X).mono (by decide)) ((cal_items X).mono (by decide)) ((cal_pruned X).mono (by decide)) ((cal_mean_same X).mono (by decide)) ((cal_first_shortest X).mono (by decide)) ((cal_items_within X).mono (by decide)) ((cal_item_numbers X).mono (by decide)) ((cal_with_item X).mono (by decide)) ((cal__law_inside X).mono (by decide)) ((cal_shorter_by X).mono (by decide)) ((cal_count_shortest X).mono (by decide)) ((cal__law_draw X).mono (by decide)) ((cal_without_item X).mono (by decide)) ((cal_contains X).mono (by decide)) ((cal_fewest_items X).mono (by decide)) f cdv A outer s H E hr) hm (F.bindsN fun _ _ _ _ _ _ us hl => match us, hl with | [_], _ => rfl)
end
def dd_is_int : He.DefD := ⟨("is_int", none), "is_int", "is_int", defArgs (top 8), defBody (top 8), defScope (top 8), [], []⟩
def dd_is_set : He.DefD := ⟨("is_set", none), "is_set", "is_set", defArgs (top 9), defBody (top 9), defScope (top 9), [], []⟩
def dd_check_set : He.DefD := ⟨("check_set", none), "check_set", "check_set", defArgs (top 10), defBody (top 10), defScope (top 10), [], []⟩
def dd_is_item : He.DefD := ⟨("is_item", none), "is_item", "is_item", defArgs (top 11), defBody (top 11), defScope (top 11), [], []⟩
def dd_check_item : He.DefD := ⟨("check_item", none), "check_item", "check_item", defArgs (top 12), defBody (top 12), defScope (top 12), [], []⟩
def dd_numbers_of : He.DefD := ⟨("numbers_of", none), "numbers_of", "numbers_of", defArgs (top 15), defBody (top 15), defScope (top 15), [], []⟩
def dd_item_numbers : He.DefD := ⟨("item_numbers", none), "item_numbers", "item_numbers", defArgs (top 16), defBody (top 16), defScope (top 16), [], []⟩
def dd_text_of : He.DefD := ⟨("text_of", none), "text_of", "text_of", defArgs (top 17), defBody (top 17), defScope (top 17), [], []⟩
def dd_item_text : He.DefD := ⟨("item_text", none), "item_text", "item_text", defArgs (top 18), defBody (top 18), defScope (top 18), [], []⟩
def dd_number_in : He.DefD := ⟨("number_in", none), "number_in", "number_in", defArgs (top 19), defBody (top 19), defScope (top 19), [], []⟩
def dd_item_in : He.DefD := ⟨("item_in", none), "item_in", "item_in", defArgs (top 20), defBody (top 20), defScope (top 20), [], []⟩
def dd_within_of : He.DefD := ⟨("within_of", none), "within_of", "within_of", defArgs (top 21), defBody (top 21), defScope (top 21), [], []⟩
def dd_items_within : He.DefD := ⟨("items_within", none), "items_within", "items_within", defArgs (top 22), defBody (top 22), defScope (top 22), [], []⟩
def dd_greatest_of : He.DefD := ⟨("greatest_of", none), "greatest_of", "greatest_of", defArgs (top 23), defBody (top 23), defScope (top 23), [], []⟩
def dd_items_in : He.DefD := ⟨("items_in", none), "items_in", "items_in", defArgs (top 25), defBody (top 25), defScope (top 25), [], []⟩
def dd_set_of : He.DefD := ⟨("set_of", none), "set_of", "set_of", defArgs (top 26), defBody (top 26), defScope (top 26), [], []⟩
def dd_check_text : He.DefD := ⟨("check_text", none), "check_text", "check_text", defArgs (top 27), defBody (top 27), defScope (top 27), [], []⟩
def dd_parse : He.DefD := ⟨("parse", none), "parse", "parse", defArgs (top 28), defBody (top 28), defScope (top 28), [], []⟩
def dd_items : He.DefD := ⟨("items", none), "items", "items", defArgs (top 29), defBody (top 29), defScope (top 29), [], []⟩
def dd_mean_same : He.DefD := ⟨("mean_same", none), "mean_same", "mean_same", defArgs (top 30), defBody (top 30), defScope (top 30), [], []⟩
def dd_weighed : He.DefD := ⟨("weighed", none), "weighed", "weighed", defArgs (top 32), defBody (top 32), defScope (top 32), [], []⟩
def dd_least_from : He.DefD := ⟨("least_from", none), "least_from", "least_from", defArgs (top 33), defBody (top 33), defScope (top 33), [], []⟩
def dd_length_of : He.DefD := ⟨("length_of", none), "length_of", "length_of", defArgs (top 34), defBody (top 34), defScope (top 34), [], []⟩
def dd_shortest_length : He.DefD := ⟨("shortest_length", none), "shortest_length", "shortest_length", defArgs (top 35), defBody (top 35), defScope (top 35), [], []⟩
def dd_covers_from : He.DefD := ⟨("covers_from", none), "covers_from", "covers_from", defArgs (top 36), defBody (top 36), defScope (top 36), [], []⟩
def dd_covers_of : He.DefD := ⟨("covers_of", none), "covers_of", "covers_of", defArgs (top 37), defBody (top 37), defScope (top 37), [], []⟩
def dd_shortest_covers : He.DefD := ⟨("shortest_covers", none), "shortest_covers", "shortest_covers", defArgs (top 38), defBody (top 38), defScope (top 38), [], []⟩
def dd_count_shortest : He.DefD := ⟨("count_shortest", none), "count_shortest", "count_shortest", defArgs (top 39), defBody (top 39), defScope (top 39), [], []⟩
def dd_first_shortest : He.DefD := ⟨("first_shortest", none), "first_shortest", "first_shortest", defArgs (top 40), defBody (top 40), defScope (top 40), [], []⟩
def dd_is_shortest : He.DefD := ⟨("is_shortest", none), "is_shortest", "is_shortest", defArgs (top 41), defBody (top 41), defScope (top 41), [], []⟩
def dd_fewest_from : He.DefD := ⟨("fewest_from", none), "fewest_from", "fewest_from", defArgs (top 42), defBody (top 42), defScope (top 42), [], []⟩
def dd_fewest_items : He.DefD := ⟨("fewest_items", none), "fewest_items", "fewest_items", defArgs (top 43), defBody (top 43), defScope (top 43), [], []⟩
def dd_shorter_by : He.DefD := ⟨("shorter_by", none), "shorter_by", "shorter_by", defArgs (top 44), defBody (top 44), defScope (top 44), [], []⟩
def dd_contains : He.DefD := ⟨("contains", none), "contains", "contains", defArgs (top 46), defBody (top 46), defScope (top 46), [], []⟩
def dd_with_item : He.DefD := ⟨("with_item", none), "with_item", "with_item", defArgs (top 48), defBody (top 48), defScope (top 48), [], []⟩
def dd_without_item : He.DefD := ⟨("without_item", none), "without_item", "without_item", defArgs (top 49), defBody (top 49), defScope (top 49), [], []⟩
def dd_pruned : He.DefD := ⟨("pruned", none), "pruned", "pruned", defArgs (top 50), defBody (top 50), defScope (top 50), [], []⟩
def dd__law_start : He.DefD := ⟨("_law_start", none), "_law_start", "_law_start", defArgs (top 52), defBody (top 52), defScope (top 52), [], []⟩
def dd__law_draw : He.DefD := ⟨("_law_draw", none), "_law_draw", "_law_draw", defArgs (top 53), defBody (top 53), defScope (top 53), [], []⟩
def dd__law_pick : He.DefD := ⟨("_law_pick", none), "_law_pick", "_law_pick", defArgs (top 54), defBody (top 54), defScope (top 54), [], []⟩
def dd__law_set : He.DefD := ⟨("_law_set", none), "_law_set", "_law_set", defArgs (top 55), defBody (top 55), defScope (top 55), [], []⟩
def dd__law_items : He.DefD := ⟨("_law_items", none), "_law_items", "_law_items", defArgs (top 56), defBody (top 56), defScope (top 56), [], []⟩
def dd__law_numbers : He.DefD := ⟨("_law_numbers", none), "_law_numbers", "_law_numbers", defArgs (top 57), defBody (top 57), defScope (top 57), [], []⟩
def dd__law_inside : He.DefD := ⟨("_law_inside", none), "_law_inside", "_law_inside", defArgs (top 58), defBody (top 58), defScope (top 58), [], []⟩
def dd_law : He.DefD := ⟨("law", none), "law", "law", defArgs (top 59), defBody (top 59), defScope (top 59), [], []⟩
def fnL : List He.DefD := [dd_is_int, dd_is_set, dd_check_set, dd_is_item, dd_check_item, dd_numbers_of, dd_item_numbers, dd_text_of, dd_item_text, dd_number_in, dd_item_in, dd_within_of, dd_items_within, dd_greatest_of, dd_items_in, dd_set_of, dd_check_text, dd_parse, dd_items, dd_mean_same, dd_weighed, dd_least_from, dd_length_of, dd_shortest_length, dd_covers_from, dd_covers_of, dd_shortest_covers, dd_count_shortest, dd_first_shortest, dd_is_shortest, dd_fewest_from, dd_fewest_items, dd_shorter_by, dd_contains, dd_with_item, dd_without_item, dd_pruned, dd__law_start, dd__law_draw, dd__law_pick, dd__law_set, dd__law_items, dd__law_numbers, dd__law_inside, dd_law]
def fa0 : List He.Fa := [.glo "is_int", .glo "is_set", .glo "check_set", .glo "is_item", .glo "check_item", .glo "numbers_of", .glo "item_numbers", .glo "text_of", .glo "item_text", .glo "number_in", .glo "item_in", .glo "within_of", .glo "items_within", .glo "greatest_of", .glo "items_in", .glo "set_of", .glo "check_text", .glo "parse", .glo "items", .glo "mean_same", .glo "weighed", .glo "least_from", .glo "length_of", .glo "shortest_length", .glo "covers_from", .glo "covers_of", .glo "shortest_covers", .glo "count_shortest", .glo "first_shortest", .glo "is_shortest", .glo "fewest_from", .glo "fewest_items", .glo "shorter_by", .glo "contains", .glo "with_item"]
def fa1 : List He.Fa := [.glo "without_item", .glo "pruned", .glo "_law_start", .glo "_law_draw", .glo "_law_pick", .glo "_law_set", .glo "_law_items", .glo "_law_numbers", .glo "_law_inside", .glo "law", .free "ValueError", .free "all", .free "bool", .free "int", .free "isinstance", .free "len", .free "list", .free "min", .free "range", .free "set", .free "sorted", .free "str", .free "sum", .free "tuple", .free "zip", .int "MOST" 10, .str "DIGITS" "0123456789", .exc "BadSet", .glo "BadSet", .exc "BadItem", .glo "BadItem", .exc "BadNumber", .glo "BadNumber", .exc "BadText", .glo "BadText"]
def fa2 : List He.Fa := [.exc "NotFound", .glo "NotFound"]
def fa : List He.Fa := fa0 ++ (fa1 ++ (fa2))
def lo0 : List PySem.Str := [PySem.Str.ofString "RangeError", PySem.Str.ofString "BadSet", PySem.Str.ofString "BadItem", PySem.Str.ofString "BadNumber", PySem.Str.ofString "BadText", PySem.Str.ofString "NotFound", PySem.Str.ofString "MOST", PySem.Str.ofString "is_int", PySem.Str.ofString "is_set", PySem.Str.ofString "check_set", PySem.Str.ofString "is_item", PySem.Str.ofString "check_item", PySem.Str.ofString "DIGITS", PySem.Str.ofString "numbers_of", PySem.Str.ofString "item_numbers", PySem.Str.ofString "text_of", PySem.Str.ofString "item_text", PySem.Str.ofString "number_in", PySem.Str.ofString "item_in", PySem.Str.ofString "within_of", PySem.Str.ofString "items_within", PySem.Str.ofString "greatest_of", PySem.Str.ofString "items_in", PySem.Str.ofString "set_of", PySem.Str.ofString "check_text", PySem.Str.ofString "parse", PySem.Str.ofString "items", PySem.Str.ofString "mean_same", PySem.Str.ofString "weighed", PySem.Str.ofString "least_from", PySem.Str.ofString "length_of", PySem.Str.ofString "shortest_length", PySem.Str.ofString "covers_from", PySem.Str.ofString "covers_of", PySem.Str.ofString "shortest_covers"]
def lo1 : List PySem.Str := [PySem.Str.ofString "count_shortest", PySem.Str.ofString "first_shortest", PySem.Str.ofString "is_shortest", PySem.Str.ofString "fewest_from", PySem.Str.ofString "fewest_items", PySem.Str.ofString "shorter_by", PySem.Str.ofString "contains", PySem.Str.ofString "with_item", PySem.Str.ofString "without_item", PySem.Str.ofString "pruned", PySem.Str.ofString "_law_start", PySem.Str.ofString "_law_draw", PySem.Str.ofString "_law_pick", PySem.Str.ofString "_law_set", PySem.Str.ofString "_law_items", PySem.Str.ofString "_law_numbers", PySem.Str.ofString "_law_inside"]
def lo : List PySem.Str := lo0 ++ (lo1)
abbrev Rw : PySem.W.OpenRow := PySem.W.OpenLaw.row PySem.Challenge.rw_rangetexts_k11_whole_orders
abbrev hk : PySem.W.Hook := hookX 4 (fun _ => true) fa fnL
def ob (s : PySem.W.SharedT) : He.AlD × Bool := obsXG 4 (fun _ => true) fa fnL (HandSHeadRun.getT s)
theorem ob_eq (s : PySem.W.SharedT) : ob s = hk.obs s.abs := obsXG_eq (HandSHeadRun.getT_eq s)
theorem run (w : World) : HandSHeadRun.RunEq Rw (PySem.W.view Rw.prog [59]) hk ob 6000 lo w := by
  intro os
  kernel_rfl
theorem hx_of {K : PySem.W.Frag} {h : Heap} {mg : Str → Option Value} (X : K.In h) (G : h.Ns mainGlobals mg) (c : He.SaysD fa fnL K) (cx : (fun _ => true) K = true) : Hx (excA K) K mg := by
  obtain ⟨e1_BadSet, e2_BadSet, e3_BadSet, e4_BadSet⟩ := He.exc_ok (c.fact 62 (f := .exc "BadSet") rfl)
  obtain ⟨e1_BadItem, e2_BadItem, e3_BadItem, e4_BadItem⟩ := He.exc_ok (c.fact 64 (f := .exc "BadItem") rfl)
  obtain ⟨e1_BadNumber, e2_BadNumber, e3_BadNumber, e4_BadNumber⟩ := He.exc_ok (c.fact 66 (f := .exc "BadNumber") rfl)
  obtain ⟨e1_BadText, e2_BadText, e3_BadText, e4_BadText⟩ := He.exc_ok (c.fact 68 (f := .exc "BadText") rfl)
  obtain ⟨e1_NotFound, e2_NotFound, e3_NotFound, e4_NotFound⟩ := He.exc_ok (c.fact 70 (f := .exc "NotFound") rfl)
  refine ⟨⟨He.free_ok X G (c.fact 45 (f := .free "ValueError") rfl), He.free_ok X G (c.fact 46 (f := .free "all") rfl), He.free_ok X G (c.fact 47 (f := .free "bool") rfl), He.free_ok X G (c.fact 48 (f := .free "int") rfl), He.free_ok X G (c.fact 49 (f := .free "isinstance") rfl), He.free_ok X G (c.fact 50 (f := .free "len") rfl), He.free_ok X G (c.fact 51 (f := .free "list") rfl), He.free_ok X G (c.fact 52 (f := .free "min") rfl), He.free_ok X G (c.fact 53 (f := .free "range") rfl), He.free_ok X G (c.fact 54 (f := .free "set") rfl), He.free_ok X G (c.fact 55 (f := .free "sorted") rfl), He.free_ok X G (c.fact 56 (f := .free "str") rfl), He.free_ok X G (c.fact 57 (f := .free "sum") rfl), He.free_ok X G (c.fact 58 (f := .free "tuple") rfl), He.free_ok X G (c.fact 59 (f := .free "zip") rfl), He.int_ok X G (c.fact 60 (f := .int "MOST" 10) rfl), He.str_ok X G (c.fact 61 (f := .str "DIGITS" "0123456789") rfl), ⟨He.glo_ok X G (c.fact 63 (f := .glo "BadSet") rfl), e1_BadSet, e2_BadSet, e3_BadSet, e4_BadSet⟩, ⟨He.glo_ok X G (c.fact 65 (f := .glo "BadItem") rfl), e1_BadItem, e2_BadItem, e3_BadItem, e4_BadItem⟩, ⟨He.glo_ok X G (c.fact 67 (f := .glo "BadNumber") rfl), e1_BadNumber, e2_BadNumber, e3_BadNumber, e4_BadNumber⟩, ⟨He.glo_ok X G (c.fact 69 (f := .glo "BadText") rfl), e1_BadText, e2_BadText, e3_BadText, e4_BadText⟩, ⟨He.glo_ok X G (c.fact 71 (f := .glo "NotFound") rfl), e1_NotFound, e2_NotFound, e3_NotFound, e4_NotFound⟩⟩, ?_, ?_, ?_, ?_, ?_, ?_, ?_, ?_, ?_, ?_, ?_, ?_, ?_, ?_, ?_, ?_, ?_, ?_, ?_, ?_, ?_, ?_, ?_, ?_, ?_, ?_, ?_, ?_, ?_, ?_, ?_, ?_, ?_, ?_, ?_, ?_, ?_, ?_, ?_, ?_, ?_, ?_, ?_, ?_, ?_⟩
  · obtain ⟨fd, F⟩ := c.def_ 0 (d := dd_is_int) rfl
    exact ⟨_, fd, F, He.glo_ok X G (c.fact 0 (f := .glo "is_int") rfl)⟩
  · obtain ⟨fd, F⟩ := c.def_ 1 (d := dd_is_set) rfl
    exact ⟨_, fd, F, He.glo_ok X G (c.fact 1 (f := .glo "is_set") rfl)⟩
  · obtain ⟨fd, F⟩ := c.def_ 2 (d := dd_check_set) rfl
    exact ⟨_, fd, F, He.glo_ok X G (c.fact 2 (f := .glo "check_set") rfl)⟩
  · obtain ⟨fd, F⟩ := c.def_ 3 (d := dd_is_item) rfl
    exact ⟨_, fd, F, He.glo_ok X G (c.fact 3 (f := .glo "is_item") rfl)⟩
  · obtain ⟨fd, F⟩ := c.def_ 4 (d := dd_check_item) rfl
    exact ⟨_, fd, F, He.glo_ok X G (c.fact 4 (f := .glo "check_item") rfl)⟩
  · obtain ⟨fd, F⟩ := c.def_ 5 (d := dd_numbers_of) rfl
    exact ⟨_, fd, F, He.glo_ok X G (c.fact 5 (f := .glo "numbers_of") rfl)⟩
  · obtain ⟨fd, F⟩ := c.def_ 6 (d := dd_item_numbers) rfl
    exact ⟨_, fd, F, He.glo_ok X G (c.fact 6 (f := .glo "item_numbers") rfl)⟩
  · obtain ⟨fd, F⟩ := c.def_ 7 (d := dd_text_of) rfl
    exact ⟨_, fd, F, He.glo_ok X G (c.fact 7 (f := .glo "text_of") rfl)⟩
  · obtain ⟨fd, F⟩ := c.def_ 8 (d := dd_item_text) rfl
    exact ⟨_, fd, F, He.glo_ok X G (c.fact 8 (f := .glo "item_text") rfl)⟩
  · obtain ⟨fd, F⟩ := c.def_ 9 (d := dd_number_in) rfl
    exact ⟨_, fd, F, He.glo_ok X G (c.fact 9 (f := .glo "number_in") rfl)⟩
  · obtain ⟨fd, F⟩ := c.def_ 10 (d := dd_item_in) rfl
    exact ⟨_, fd, F, He.glo_ok X G (c.fact 10 (f := .glo "item_in") rfl)⟩
  · obtain ⟨fd, F⟩ := c.def_ 11 (d := dd_within_of) rfl
    exact ⟨_, fd, F, He.glo_ok X G (c.fact 11 (f := .glo "within_of") rfl)⟩
  · obtain ⟨fd, F⟩ := c.def_ 12 (d := dd_items_within) rfl
    exact ⟨_, fd, F, He.glo_ok X G (c.fact 12 (f := .glo "items_within") rfl)⟩
  · obtain ⟨fd, F⟩ := c.def_ 13 (d := dd_greatest_of) rfl
    exact ⟨_, fd, F, He.glo_ok X G (c.fact 13 (f := .glo "greatest_of") rfl)⟩
  · obtain ⟨fd, F⟩ := c.def_ 14 (d := dd_items_in) rfl
    exact ⟨_, fd, F, He.glo_ok X G (c.fact 14 (f := .glo "items_in") rfl)⟩
  · obtain ⟨fd, F⟩ := c.def_ 15 (d := dd_set_of) rfl
    exact ⟨_, fd, F, He.glo_ok X G (c.fact 15 (f := .glo "set_of") rfl)⟩
  · obtain ⟨fd, F⟩ := c.def_ 16 (d := dd_check_text) rfl
    exact ⟨_, fd, F, He.glo_ok X G (c.fact 16 (f := .glo "check_text") rfl)⟩
  · obtain ⟨fd, F⟩ := c.def_ 17 (d := dd_parse) rfl
    exact ⟨_, fd, F, He.glo_ok X G (c.fact 17 (f := .glo "parse") rfl)⟩
  · obtain ⟨fd, F⟩ := c.def_ 18 (d := dd_items) rfl
    exact ⟨_, fd, F, He.glo_ok X G (c.fact 18 (f := .glo "items") rfl)⟩
  · obtain ⟨fd, F⟩ := c.def_ 19 (d := dd_mean_same) rfl
    exact ⟨_, fd, F, He.glo_ok X G (c.fact 19 (f := .glo "mean_same") rfl)⟩
  · obtain ⟨fd, F⟩ := c.def_ 20 (d := dd_weighed) rfl
    exact ⟨_, fd, F, He.glo_ok X G (c.fact 20 (f := .glo "weighed") rfl)⟩
  · obtain ⟨fd, F⟩ := c.def_ 21 (d := dd_least_from) rfl
    exact ⟨_, fd, F, He.glo_ok X G (c.fact 21 (f := .glo "least_from") rfl)⟩
  · obtain ⟨fd, F⟩ := c.def_ 22 (d := dd_length_of) rfl
    exact ⟨_, fd, F, He.glo_ok X G (c.fact 22 (f := .glo "length_of") rfl)⟩
  · obtain ⟨fd, F⟩ := c.def_ 23 (d := dd_shortest_length) rfl
    exact ⟨_, fd, F, He.glo_ok X G (c.fact 23 (f := .glo "shortest_length") rfl)⟩
  · obtain ⟨fd, F⟩ := c.def_ 24 (d := dd_covers_from) rfl
    exact ⟨_, fd, F, He.glo_ok X G (c.fact 24 (f := .glo "covers_from") rfl)⟩
  · obtain ⟨fd, F⟩ := c.def_ 25 (d := dd_covers_of) rfl
    exact ⟨_, fd, F, He.glo_ok X G (c.fact 25 (f := .glo "covers_of") rfl)⟩
  · obtain ⟨fd, F⟩ := c.def_ 26 (d := dd_shortest_covers) rfl
    exact ⟨_, fd, F, He.glo_ok X G (c.fact 26 (f := .glo "shortest_covers") rfl)⟩
  · obtain ⟨fd, F⟩ := c.def_ 27 (d := dd_count_shortest) rfl
    exact ⟨_, fd, F, He.glo_ok X G (c.fact 27 (f := .glo "count_shortest") rfl)⟩
  · obtain ⟨fd, F⟩ := c.def_ 28 (d := dd_first_shortest) rfl
    exact ⟨_, fd, F, He.glo_ok X G (c.fact 28 (f := .glo "first_shortest") rfl)⟩
  · obtain ⟨fd, F⟩ := c.def_ 29 (d := dd_is_shortest) rfl
    exact ⟨_, fd, F, He.glo_ok X G (c.fact 29 (f := .glo "is_shortest") rfl)⟩
  · obtain ⟨fd, F⟩ := c.def_ 30 (d := dd_fewest_from) rfl
    exact ⟨_, fd, F, He.glo_ok X G (c.fact 30 (f := .glo "fewest_from") rfl)⟩
  · obtain ⟨fd, F⟩ := c.def_ 31 (d := dd_fewest_items) rfl
    exact ⟨_, fd, F, He.glo_ok X G (c.fact 31 (f := .glo "fewest_items") rfl)⟩
  · obtain ⟨fd, F⟩ := c.def_ 32 (d := dd_shorter_by) rfl
    exact ⟨_, fd, F, He.glo_ok X G (c.fact 32 (f := .glo "shorter_by") rfl)⟩
  · obtain ⟨fd, F⟩ := c.def_ 33 (d := dd_contains) rfl
    exact ⟨_, fd, F, He.glo_ok X G (c.fact 33 (f := .glo "contains") rfl)⟩
  · obtain ⟨fd, F⟩ := c.def_ 34 (d := dd_with_item) rfl
    exact ⟨_, fd, F, He.glo_ok X G (c.fact 34 (f := .glo "with_item") rfl)⟩
  · obtain ⟨fd, F⟩ := c.def_ 35 (d := dd_without_item) rfl
    exact ⟨_, fd, F, He.glo_ok X G (c.fact 35 (f := .glo "without_item") rfl)⟩
  · obtain ⟨fd, F⟩ := c.def_ 36 (d := dd_pruned) rfl
    exact ⟨_, fd, F, He.glo_ok X G (c.fact 36 (f := .glo "pruned") rfl)⟩
  · obtain ⟨fd, F⟩ := c.def_ 37 (d := dd__law_start) rfl
    exact ⟨_, fd, F, He.glo_ok X G (c.fact 37 (f := .glo "_law_start") rfl)⟩
  · obtain ⟨fd, F⟩ := c.def_ 38 (d := dd__law_draw) rfl
    exact ⟨_, fd, F, He.glo_ok X G (c.fact 38 (f := .glo "_law_draw") rfl)⟩
  · obtain ⟨fd, F⟩ := c.def_ 39 (d := dd__law_pick) rfl
    exact ⟨_, fd, F, He.glo_ok X G (c.fact 39 (f := .glo "_law_pick") rfl)⟩
  · obtain ⟨fd, F⟩ := c.def_ 40 (d := dd__law_set) rfl
    exact ⟨_, fd, F, He.glo_ok X G (c.fact 40 (f := .glo "_law_set") rfl)⟩
  · obtain ⟨fd, F⟩ := c.def_ 41 (d := dd__law_items) rfl
    exact ⟨_, fd, F, He.glo_ok X G (c.fact 41 (f := .glo "_law_items") rfl)⟩
  · obtain ⟨fd, F⟩ := c.def_ 42 (d := dd__law_numbers) rfl
    exact ⟨_, fd, F, He.glo_ok X G (c.fact 42 (f := .glo "_law_numbers") rfl)⟩
  · obtain ⟨fd, F⟩ := c.def_ 43 (d := dd__law_inside) rfl
    exact ⟨_, fd, F, He.glo_ok X G (c.fact 43 (f := .glo "_law_inside") rfl)⟩
  · obtain ⟨fd, F⟩ := c.def_ 44 (d := dd_law) rfl
    exact ⟨_, fd, F, He.glo_ok X G (c.fact 44 (f := .glo "law") rfl)⟩
theorem facts {P : Program} {w : World} {K : PySem.W.Frag} {h : Heap} {mg : Str → Option Value} {f : Addr} (X : K.In h) (G : h.Ns mainGlobals mg) (hfa : mg ("law" : Str) = some (.ref f)) (c : He.SaysD fa fnL K) (cx : (fun _ => true) K = true) :
    ∃ fd : FuncData, (∀ (s : Shared) (v : Value), BindsTo s fd ⟨[v], []⟩ [("_law_script", v)]) ∧ ∀ base : Heap, K.In base → base.Ns mainGlobals mg → FnOk P w K mg base (L2.CX P w) 27 f fd ["_law_script"] (SpD (VD K (excA K)) spd_law) := by
  have Y := hx_of X G c cx
  obtain ⟨f', fd, F, hm⟩ := Y.d_law
  rw [hfa] at hm
  cases hm
  have b := FunD.bindsA (ps := ["_law_script"]) F fun _ _ _ _ _ _ us hl => match us, hl with | [_], _ => rfl
  refine ⟨fd, fun s v => b s [v] rfl, fun base _ _ => ?_⟩
  exact def_ok F sc_law len_law law_k11 fun cdv A outer s H E hr => der_law Y.fx ((cal__law_start Y).mono (by decide)) ((cal__law_set Y).mono (by decide)) ((cal_shortest_covers Y).mono (by decide)) ((cal__law_pick Y).mono (by decide)) ((cal_item_text Y).mono (by decide)) ((cal_is_shortest Y).mono (by decide)) ((cal_parse Y).mono (by decide)) ((cal_shortest_length Y).mono (by decide)) ((cal_items Y).mono (by decide)) ((cal_pruned Y).mono (by decide)) ((cal_mean_same Y).mono (by decide)) ((cal_first_shortest Y).mono (by decide)) ((cal_items_within Y).mono (by decide)) ((cal_item_numbers Y).mono (by decide)) ((cal_with_item Y).mono (by decide)) ((cal__law_inside Y).mono (by decide)) ((cal_shorter_by Y).mono (by decide)) ((cal_count_shortest Y).mono (by decide)) ((cal__law_draw Y).mono (by decide)) ((cal_without_item Y).mono (by decide)) ((cal_contains Y).mono (by decide)) ((cal_fewest_items Y).mono (by decide)) f cdv A outer s H E hr
theorem spec_ok {K : PySem.W.Frag} {C : EK → Addr} (H : Hp) (a : Addr) (ns : List Int) (hl : ns.length ≤ 63) (hS : SqL K H a (ns.map V.int)) : SpD (VD K C) spd_law [.ref a] H (fun v _ => v = .bl true) fun _ _ _ => False := by
  refine ⟨⟨H, fun _ => none, H⟩, .pre a, [.rf a], fun d _ => d = .py (.bool true), fun _ _ => False, rfl, ⟨fun _ _ e => e, fun _ _ e => (by cases e), fun _ _ _ => rfl⟩, ⟨fun _ => rfl, ns, hl, hS⟩, .cons rfl .nil, ⟨a, rfl, rfl, fun _ => rfl⟩, fun d θ' M' v e j r n => ?_, fun _ _ _ _ _ h => h⟩
  have n' : d = .py (.bool true) := n
  subst n'
  cases (show Dr M'.G v (.bool true) from r)
  rfl
end RT
open PySem PySem.W PySem.Calls PyProof.Rows
theorem PySem.Challenge.cw_rangetexts_k11_whole_orders_holds : PySem.Challenge.rw_rangetexts_k11_whole_orders.Holds := by
  w_on; o_law
  refine HandSHeadRun.head_any (r := OpenLaw.row PySem.Challenge.rw_rangetexts_k11_whole_orders) (q := view (OpenLaw.row PySem.Challenge.rw_rangetexts_k11_whole_orders).prog [59]) (H := RT.hk) (ob := RT.ob) (M := 6000) (loose := RT.lo) (d := HandSHeadRun.topDef (OpenLaw.row PySem.Challenge.rw_rangetexts_k11_whole_orders).prog 59) (kwd := []) RT.ob_eq
    (by kernel_rfl) (fun s => by kernel_rfl) RT.run (by kernel_rfl) (by kernel_rfl) (by kernel_rfl) (by rfl) (by first | assumption | decide +kernel) (by decide +kernel) ⟨rfl, rfl, rfl, rfl, rfl, by decide +kernel⟩ ?hw ?hc
  case hw => w_witness2
  case hc =>
    refine LamX.walk_ofTsE (l := PySem.Challenge.rw_rangetexts_k11_whole_orders) (n := 63) (k := 27) (x := "_law_script") (CX := fun w => L2.CX (PySem.Challenge.rw_rangetexts_k11_whole_orders).prog w) rfl (by decide) (by kernel_rfl) ⟨rfl, by decide, by decide⟩ ?F (fun _ _ _ _ _ z => by obtain ⟨_, _, _, _, _, _, _, _, _, _, _, _, h⟩ := z; exact h)
    intro w mg fa h Y G hmg0
    obtain ⟨K, KX, c, cx⟩ := Y
    have hmg : mg ("law" : PySem.Str) = some (.ref fa) := by
      have e : (HandSHeadRun.topDef (OpenLaw.row PySem.Challenge.rw_rangetexts_k11_whole_orders).prog 59).name = ("law" : PySem.Str) := by kernel_rfl
      rw [← e]
      exact hmg0
    obtain ⟨fd, hb, hF⟩ := RT.facts (P := (PySem.Challenge.rw_rangetexts_k11_whole_orders).prog) (w := w) KX G hmg c cx
    exact ⟨K, KX, fd, [], _, (fun _ z => by cases z), (fun _ z => by cases z), (fun _ z => by cases z), hb, fun H a ns hl _ _ hS => RT.spec_ok H a ns hl hS, fun base k1 k2 _ => hF base k1 k2⟩
end
